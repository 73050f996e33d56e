/- What a caller's memory reads as, behind a call that keeps it. -/
import Derived.Test.YtecikbfimlolcaaGreatDoorEvF
import Derived.Deep.Slices
import Derived.ReadAgain
import Derived.ChangeOld
set_option linter.all false
noncomputable section
namespace Go.Ev
noncomputable section
abbrev KT:=L2->H->OR
def Apz (k:AV->H->OR) (r:OR):OR:=OR.rec (motive:=λ_=>OR) OR.bad k (λ_ _=>.bad 400) r
def Aa (r:OR) (k:AV->H->OR):OR:=Apz k r
def A2M (x:VB) (a b:OR):OR:=VB.rec (motive:=λ_=>OR) (.bad 401) (λc=>Bool.rec (motive:=λ_=>OR) b a c) x
def Af (x:AV) (a b:OR):OR:=A2M (vB x) a b
def opX (o:Oper):Program->Ac->L2->H->OR:=Option.rec (motive:=λ_=>Program->Ac->L2->H->OR) (λP ctx f h=>opD o.op o.type P ctx f h) (λ_ _ _ _ _=>.bad 402) (Ie o.op)
def Ad (x:AV) (w:Bool) (r:OR) (h:H):OR:=WT.rec (motive:=λ_=>OR) r (.ok (.Bj []) h) (.bad 182) (Adq x w)
def Acv (g:GS) (o:Oper) (P:Program) (ctx:Ac) (f:L2) (h:H):OR:=GS.rec (motive:=λ_=>OR) (opX o P ctx f h) (λt w=>Ad (f.get t) w (opX o P ctx f h) h) (.bad 182) g
def A54 (P:Program) (ctx:Ac) (ops:Array Oper) (l:List Oper):KT->KT:=
 List.rec (motive:=λ_=>KT->KT) (λk=>k) (λo _ ih k f h=>Apz (λv h'=>ih k (Im o.dst v f) h') (Acv (guardOf ops o) o P ctx f h)) l
def Ff (lg:List Nat) (Fl:List EF) (h:H) (k:H->OR):OR:=Bool.rec (motive:=λ_=>OR) (.bad 183) (k (Be (En Fl lg) h)) (Lh Fl)
def ApP (ops:Array Oper) (i:Nat):Nat:=match (M7 ops.toList 0 [])[i]? with|some o=>o.pr|none=>0
def Ahn (ops:Array Oper):List Oper->Nat->List DO:=λl=>List.rec (motive:=λ_=>Nat->List DO) (λ_=>[]) (λo _ ih i=>⟨o,Ka i,ApP ops i⟩::ih (Nat.succ i)) l
def xDr (P:Program) (ctx:Ac) (ops:Array Oper) (lg:List Nat) (l:List DO):List EF->KT->KT:=
 List.rec (motive:=λ_=>List EF->KT->KT) (λFl k f h=>Ff lg Fl h (λh'=>k f h'))
  (λo _ ih Fl k f h=>Apz (λv h'=>ih (⟨o.bit,o.pr,wrote h.nx h'.lg,Gi o.o.op f,h,h'.nx⟩::Fl) k (Im o.o.dst v f) h') (Acv (guardOf ops o.o) o.o P ctx f (Ab h))) l
def Ap0 (h:H) (k:AV->H->OR) (r:OR):OR:=OR.rec (motive:=λ_=>OR) OR.bad (λv h'=>Bool.rec (motive:=λ_=>OR) (.bad 409) (k v h') (Q6 (wrote h.nx h'.lg))) (λ_ _=>.bad 400) r
def Al (h:H) (r:OR) (k:AV->H->OR):OR:=Ap0 h k r
def xQu (P:Program) (ctx:Ac) (ops:Array Oper) (lg:List Nat) (l:List Oper):KT->KT:=
 List.rec (motive:=λ_=>KT->KT) (λk f h=>k f (Be lg h))
  (λo _ ih k f h=>Ap0 h (λv h'=>ih k (Im o.dst v f) h') (Acv (guardOf ops o) o P ctx f (Ab h))) l
def As4 (q:Bool) (ops:Array Oper) (P:Program) (ctx:Ac) (k:KT):KT:=λf h=>Bool.rec (motive:=λ_=>OR) (xDr P ctx ops h.lg (Ahn ops ops.toList 0) [] k f h) (xQu P ctx ops h.lg ops.toList k f h) q
def Amp (q:Bool) (ops:Array Oper) (dr:Bool) (P:Program) (ctx:Ac) (k:KT):KT:=
 Bool.rec (motive:=λ_=>KT) (A54 P ctx ops ops.toList k) (λf h=>Bool.rec (motive:=λ_=>OR) (.bad 185) (As4 q ops P ctx k f h) (AnB ops)) dr
def E4 (id:Nat) (k:KT) (j:Nat->KT):Nat->KT:=λi f h=>Bool.rec (motive:=λ_=>OR) (j i f h) (k f h) (Nat.beq i id)
def F2 (b:KT->KT) (n:Nat):KT:=Nat.rec (motive:=λ_=>KT) (λ_ _=>.bad 404) (λ_ ih=>b ih) n
abbrev XT:=Program->Ac->Nat->Bool->(Nat->KT)->KT->KT->KT
def A7f (k:KT):KT:=k
def A7g (k:KT):KT:=A7f k
def A7h (k:KT):KT:=A7g k
def A7i (k:KT):KT:=A7h k
def Lk (k:KT):KT:=A7i k
def xc (c:Code):XT:=Code.rec (motive:=λ_=>XT) (λ_ _ _ _ _ _ k=>k) (λ_ ops dr P ctx _ q _ _ k=>Amp q ops dr P ctx k) (λ_ _ a b P ctx N q j r k=>a P ctx N q j r (Lk (b P ctx N q j r k)))
 (λc _ _ a b P ctx N q j r k f h=>Af (ev c f) (a P ctx N q j r k f h) (b P ctx N q j r k f h)) (λid _ a P ctx N q j r k=>a P ctx N q (E4 id k j) r k)
 (λ_ a P ctx N q j r _=>F2 (λk=>a P ctx N q j r k) N) (λ_ _ _ _ _ _ _ _ _ _ _ _ _ _ _=>.bad 403) (λid _ _ _ _ j _ _=>j id) (λ_ a=>a)
 (λ_ _ _ _ _ _ _ k=>k) (λ_ _ _ _ _ _ _ _ _ _=>.bad 193) (λ_ _ _ _ _ r _=>r) (λ_ _ _ _ _ _ _ _ _ _=>.bad 194) c
def A3b (P:Program) (rs:List ResultVar) (x:VA) (f:L2) (h:H):OR:=VA.rec (motive:=λ_=>OR) (.bad 198) (λds=>List.rec (motive:=λ_=>OR) (Gg P rs f h) (λ_ _ _=>.bad 408) ds) x
def Bz (P:Program) (rs:List ResultVar):KT:=λf h=>A3b P rs (vT (f.get Br)) f h
def Ajy (P:Program) (ctx:Ac) (N:Nat) (q:Bool) (args:List AV) (h:H) (i:FI):OR:=
 Bool.rec (motive:=λ_=>OR) (.bad 407) (xc i.body P ctx N q (λ_ _ _=>.bad 406) (Bz P i.rs) (Bz P i.rs) (Eu args 0 Az) h) (Nat.ble (Q4 args) i.nt)
def Ay (P:Program) (ctx:Ac) (N:Nat) (q:Bool) (g:FuncId) (args:List AV) (h:H):OR:=Option.rec (motive:=λ_=>OR) (.bad 405) (Ajy P ctx N q args h) (Ln P g)
variable {P:Program} {ctx:Ac} {h h':H} {v:AV} {f f':L2}
theorem Qu {r} {k} (he:Aa r k=.ok v h'):∃u h1,r=.ok u h1/\k u h1=.ok v h':=by cases r with
 |bad n=>cases he
 |ok u h1=>exact ⟨u,_,rfl,he⟩
 |Hb u h1=>cases he
def Mc (j:Nat->KT) (r k:KT) (v:AV) (h':H):RC->Prop
 |.bad _=>False
 |.Bt f h=>k f h=.ok v h'
 |.ext i f h=>j i f h=.ok v h'
 |.ret f h=>r f h=.ok v h'
theorem Sy {ops} {o} {u} {h1} (he:Acv (guardOf ops o) o P ctx f h=.ok u h1):Fp ops o P ctx f h=.Bt (Im o.dst u f) h1:=by
 have De:∀{u} {h1},opX o P ctx f h=.ok u h1->Ame o P ctx f h=.Bt (Im o.dst u f) h1:=by intro u h1 he;unfold opX at he;show op1 o _ _ P _ f h=_;unfold op1;cases hd:Ie _ with
  |some c=>simp_all
  |none=>rw [hd] at he;have Ak:opD _ _ P _ f h=.ok u _:=he;show Akx _ f h ..=_;rw [Ak];rfl
 show AjD _ o P _ f h=_;unfold Acv at he;cases hg:guardOf _ o with
 |bad=>simp_all
 |always=>rw [hg] at he;exact De he
 |on t w=>rw [hg] at he;have Ak:Ad _ w _ h=.ok u _:=he;show Amo _ o P _ f h=_;unfold Ad at Ak;cases hw:Adq _ w with
  |yes=>rw [hw] at Ak;exact De Ak
  |no=>rw [hw] at Ak;cases Ak;rfl
  |bad=>simp_all
theorem AkM {ops} {j} {r k}:∀l f h,A54 P ctx ops l k f h=.ok v h'->Mc j r k v h' (G3 P ctx ops l f h):=by intro l;induction l with
 |nil=>intro f h he;exact he
 |cons o l ih=>intro f h he;obtain ⟨u,h1,h2,h3⟩:=Qu (show Aa ..=_ from he);show Mc j r k v _ (andThen ..);rw [Sy h2];exact ih _ _ h3
theorem Ao0:∀l i acc k d,(M7 l i acc)[k]?=some d->(∃o,l[k]?=some o/\d.o=o)/\d.bit=Ka (i+k):=by intro l;induction l with
 |nil=>intro i acc k d hd;simp [M7] at hd
 |cons o l ih=>intro i acc k d hd;cases k with
  |zero=>simp [M7] at hd;grind
  |succ k=>
   have hd':=by simpa [M7] using hd
   grind
theorem Ags:∀l i acc,(M7 l i acc).length=l.length:=by intro l;induction l with
 |nil=>intro i acc;rfl
 |cons o l ih=>intro i acc;show (M7 l ..).length+1=_;grind
theorem AkP ops:∀l (i k:Nat),(Ahn ops l i)[k]?=l[k]?.map λo=>⟨o,Ka (i+k),ApP ops (i+k)⟩:=by intro l;induction l with
 |nil=>intro i k;rfl
 |cons o l ih=>intro i k;cases k with
  |zero=>rfl
  |succ k=>show (Ahn _ l _)[k]?=_;grind
theorem Aoz ops:Ahn ops ops.toList 0=M7 ops.toList 0 []:=by apply List.ext_getElem?;intro k;rw [AkP];cases hd:(M7 _ 0 _)[k]? with
 |none=>
  have h1:(M7 ops.toList 0 []).length<=k:=by grind
  rw [Ags] at h1;grind
 |some d=>
  obtain ⟨⟨o,h1,h2⟩,h3⟩:=Ao0 _ _ _ _ _ hd;rw [h1];have h4:ApP ops k=d.pr:=by unfold ApP;grind
  show some _=some d;rw [<- h3,Nat.zero_add,h4,<- h2]
theorem Aow {ops} {lg} {j} {r k}:∀l Fl f h,xDr P ctx ops lg l Fl k f h=.ok v h'->Mc j r k v h' (Sp P ctx ops lg l Fl f h):=by intro l;induction l with
 |nil=>intro Fl f h he;have Ak:Ff _ _ h _=.ok v _:=he;show Mc j r k v _ (Acf _ _ f h);unfold Ff at Ak;unfold Acf;cases hb:Lh _ with
  |false=>simp_all
  |true=>rw [hb] at Ak;exact Ak
 |cons o l ih=>intro Fl f h he;obtain ⟨u,h1,h2,h3⟩:=Qu (show Aa ..=_ from he);show Mc j r k v _ (RC.rec (motive:=λ_=>RC) _ _ _ ..);rw [Sy h2];exact ih _ _ _ h3
theorem Ao1 {l} (hn:Q6 l=true):l=[]:=by cases l with|nil=>rfl|cons a l=>cases hn
theorem Aoy {ops} {lg} {j} {r k}:∀l Fl f h,(∀e∈Fl,e.w=[])->xQu P ctx ops lg (l.map (·.o)) k f h=.ok v h'->Mc j r k v h' (Sp P ctx ops lg l Fl f h):=by intro l;induction l with
 |nil=>
  intro Fl f h hq he;show Mc j r k v _ (Acf _ _ f h);have h1:∀all l,(∀e∈l,e.w=[])->Iu all l=true:=by intro all l;induction l with
   |nil=>intro _;rfl
   |cons e l ih=>intro hl;show Bool.rec (motive:=λ_=>Bool) _ ..=true;rw [hl e (by simp)];exact ih λx hx=>hl x (by grind)
  have h2:∀l,(∀e∈l,e.w=[])->En l lg=lg:=by intro l;induction l with
   |nil=>intro _;rfl
   |cons e l ih=>intro hl;show Akm _ (En l _)=lg;rw [hl e (by simp),ih λx hx=>hl x (by simp [*])];rfl
  unfold Acf Lh;rw [h1 _ _ hq,h2 _ hq];exact he
 |cons o l ih=>intro Fl f h hq he;obtain ⟨u,h1,h2,h3⟩:=Qu (show Aa ..=_ from he);show Mc j r k v _ (RC.rec (motive:=λ_=>RC) _ _ _ ..);rw [Sy h2];cases hb:Q6 (wrote h.nx h1.lg) with
  |false=>simp_all
  |true=>
   rw [hb] at h3;refine ih _ _ _ ?_ h3;intro e he;rcases List.mem_cons.1 he with rfl|he;. exact Ao1 hb
   grind
theorem Ava:∀l i acc,(M7 l i acc).map (·.o)=l:=by intro l;induction l with
 |nil=>intro i acc;rfl
 |cons o l ih=>intro i acc;show o::(M7 l ..).map _=_;grind
def S8 (b:L2->H->RC) (n:Nat):L2->H->RC:=Nat.rec (motive:=λ_=>L2->H->RC) (λf h=>.Bt f h) (λ_ ih f h=>andThen ih (b f h)) n
theorem Adu a b r:andThen a (andThen b r)=andThen (λf h=>andThen a (b f h)) r:=by cases r<;>rfl
theorem AeC b m:∀n f h,S8 b (n+m) f h=andThen (S8 b m) (S8 b n f h):=by intro n;induction n with
 |zero=>intro f h;rw [Nat.zero_add];rfl
 |succ n ih=>intro f h;rw [Nat.succ_add];show andThen (S8 b _) _=andThen _ (andThen (S8 b n) _);rw [Adu];congr 1;grind
theorem Ake b:∀k f h,Yd b P ctx k f h=S8 (b P ctx) (2 ^ k) f h:=by intro k;induction k with
 |zero=>intro f h;show b P _ f h=andThen ..;cases b P _ f h<;>rfl
 |succ k ih=>intro f h;rw [Nat.pow_succ,Nat.mul_two,AeC];show andThen (Yd b P _ k) (Yd b P _ k f h)=_;rw [ih f h];congr 1;grind
theorem As6 {N} {q} (hN:N<=1048576) c:∀j r k f h,xc c P ctx N q j r k f h=.ok v h'->Mc j r k v h' (exec c P ctx f h):=by induction c with
 |skip=>intro j r k f h he;exact he
 |region id ops dr=>intro j r k f h he;have Ak:=he;cases dr with
  |false=>exact AkM _ _ _ Ak
  |true=>have Cs:Bool.rec (motive:=λ_=>OR) _ ..=.ok v _:=Ak;show Mc j r k v _ (Gk P _ _ f h);unfold Gk;cases hn:AnB _ with
   |false=>simp_all
   |true=>rw [hn] at Cs;cases q with
    |false=>have Fv:xDr P _ _ _ _ _ k f h=.ok v _:=Cs;rw [Aoz] at Fv;exact Aow _ _ _ _ Fv
    |true=>have Fv:xQu P _ _ _ _ k f h=.ok v _:=Cs;rw [<- Ava ops.toList 0 _] at Fv;exact Aoy _ _ _ _ λe he=>by grind Fv
 |seq a b Rs ihb=>intro j r k f h he;have h1:=Rs j r _ f h he;show Mc j r k v _ (andThen _ (exec a P _ f h));cases hx:exec a P _ f h with
  |bad n=>rw [hx] at h1;exact h1.elim
  |Bt f1 h2=>rw [hx] at h1;exact ihb j r k _ _ h1
  |ext i f1 h2=>rw [hx] at h1;exact h1
  |ret f1 h2=>rw [hx] at h1;exact h1
 |cond x a b Rs ihb=>intro j r k f h he;have Ak:Af _ ..=.ok v _:=he;show Mc j r k v _ (Al2 _ _ _ P _ f h);cases hx:ev x f with
  |bool c=>rw [hx] at Ak;cases c with
   |false=>exact ihb j r k f h Ak
   |true=>exact Rs j r k f h Ak
  |_=>rw [hx] at Ak;cases Ak
 |block id a Rs=>intro j r k f h he;have h1:=Rs _ r k f h he;show Mc j r k v _ (inBlock _ (exec a P _ f h));cases hx:exec a P _ f h with
  |bad n=>rw [hx] at h1;exact h1.elim
  |Bt f1 h2=>rw [hx] at h1;exact h1
  |ext i f1 h2=>rw [hx] at h1;have R3:Bool.rec (motive:=λ_=>OR) _ ..=.ok v _:=h1;show Mc j r k v _ (Bool.rec (motive:=λ_=>RC) _ ..);cases hb:Nat.beq i _ with
   |false=>rw [hb] at R3;exact R3
   |true=>rw [hb] at R3;exact R3
  |ret f1 h2=>rw [hx] at h1;exact h1
 |loop a Rs=>
  intro j r k f h he;have key:∀n f h,F2 (xc a P ctx N q j r) n f h=.ok v h'->Mc j r (λ_ _=>.bad 0) v h' (S8 (exec a P ctx) n f h):=by intro n;induction n with
   |zero=>intro f h he;cases he
   |succ n ih=>intro f h he;have h1:=Rs j r _ f h he;show Mc j r _ v _ (andThen ..);cases hx:exec a P _ f h with
    |bad n=>rw [hx] at h1;exact h1.elim
    |Bt f1 h2=>rw [hx] at h1;exact ih _ _ h1
    |ext i f1 h2=>rw [hx] at h1;exact h1
    |ret f1 h2=>rw [hx] at h1;exact h1
  have h1:=key N f h he;show Mc j r k v _ (andThen _ (Yd (exec a) P _ _ f h));rw [Ake,show 2 ^ 20=1048576 from rfl,show 1048576=N+(1048576 - N) by omega,AeC];cases hx:S8 _ N f h with
  |bad n=>rw [hx] at h1;exact h1.elim
  |Bt f1 h2=>rw [hx] at h1;cases h1
  |ext i f1 h2=>rw [hx] at h1;exact h1
  |ret f1 h2=>rw [hx] at h1;exact h1
 |rangeFunc x ps a b Rs ihb=>intro j r k f h he;cases he
 |exit id=>intro j r k f h he;exact he
 |ret=>intro j r k f h he;exact he
 |scope a Rs=>exact Rs
 |_=>intro j r k f h he;first|exact he|cases he
theorem Aa7 {rs} (he:Bz P rs f h=.ok v h'):finish P ctx rs f h=.ok v h':=by have Ak:A3b P _ _ f h=.ok v _:=he;unfold finish;cases hv:vT _ with
 |no=>rw [hv] at Ak;cases Ak
 |yes ds=>rw [hv] at Ak;cases ds with
  |nil=>exact Ak
  |cons d ds=>cases Ak
theorem Jn {N} {q} (hN:N<=1048576) {g} {args} (he:Ay P ctx N q g args h=.ok v h'):Fy P ctx g args h=.ok v h':=by unfold Ay at he;unfold Fy;cases hi:Ln P g with
 |none=>simp_all
 |some i=>rw [hi] at he;have Ak:Ajy P _ N q _ h i=.ok v _:=he;show AbW P _ g _ h i=.ok v _;unfold Ajy at Ak;unfold AbW;cases hb:Nat.ble .. with
  |false=>simp_all
  |true=>rw [hb] at Ak;have h1:=As6 hN _ _ _ _ _ _ Ak;cases hx:exec _ P _ _ h with
   |bad n=>rw [hx] at h1;exact h1.elim
   |Bt f1 h2=>rw [hx] at h1;show Agk g (finish P _ _ ..)=_;rw [Aa7 h1];rfl
   |ext i f1 h2=>rw [hx] at h1;cases h1
   |ret f1 h2=>rw [hx] at h1;show Agk g (finish P _ _ ..)=_;rw [Aa7 h1];rfl
end
end Go.Ev
namespace Go.Ev
noncomputable section
abbrev C6 (x y:OR) (b:Bool):OR:=Bool.rec (motive:=λ_=>OR) x y b
def Aj (P:Program) (op:BinOp) (t:TypeId) (c:Bool) (x y:AV) (h:H):OR:=Atc x x y op t c P h
def Qe (op:UnOp) (x:AV) (h:H):OR:=
 match op with
 |.not=>match vB x with|.yes b=>.ok (.bool (Ib b)) h|.no=>.bad 44
 |.neg=>match vI x with|.yes k n=>.ok (.int k (E1 k (Int.sub 0 n))) h|.no=>.bad 45
 |_=>.bad 46
def Fu (x:AV) (h:H):OR:=C6 (.bad 28) (.ok x h) (notNil x)
def Ae (i:Option (Option Nat)) (a:AV) (h:H):OR:=ldV a i h
def A4 (n:Nat) (a x:AV) (h:H):OR:=stV a (cellsOf x) (some n) h
def Oy (e:TypeId) (x:AV) (h:H):OR:=AdR (cellsOf x) e h
def Sr:List (Nat × Nat × AV)->List AV->Option (List AV)
 |[],cs=>some cs
 |p::rest,cs=>
  match (some (p.1,p.2.1):Option (Nat × Nat)),cellsOf p.2.2 with
  |some (off,size),some v=>match Ng cs v off with|some D7=>Bool.rec (motive:=λ_=>Option (List AV)) none (Sr rest D7) (Nat.beq (Q4 v) size)|none=>none
  |_,_=>none
def B7 (z:List AV) (l:List (Nat × Nat × AV)) (h:H):OR:=Ly (Sr l z) h
def Bh (e:TypeId) (s n:Nat) (z:List AV) (l:List (Nat × Nat × AV)) (h:H):OR:=
 match Sr l z with
 |some cs=>mk h (.cells cs e .exact) (.sl h.nx 0 n n s true)
 |none=>.bad 20
def Gc (s:Nat) (x i:AV) (h:H):OR:=Option.rec (motive:=λ_=>OR) (.bad 92) (λn=>iaS x n s h) (Vg i)
def AxM (len s:Nat) (x i:AV) (h:H):OR:=Option.rec (motive:=λ_=>OR) (.bad 92) (λn=>iaA x len n s h) (Vg i)
def xTA (z:AV) (ast:TypeId) (ok:Bool) (x:AV) (h:H):OR:=
 match (some z:Option AV),vIf x with
 |some z,.nil=>C6 (.bad 103) (.ok (.Bj [z,.bool false]) h) ok
 |some z,.yes t v=>C6 (C6 (.bad 104) (.ok (.Bj [z,.bool false]) h) ok) (.ok (Bool.rec (motive:=λ_=>AV) v (.Bj [v,.bool true]) ok) h) (Nat.beq t ast)
 |_,_=>.bad 105
def A7a (i:SI) (s x:AV) (h:H):OR:=
 match Hd h i.s x with
 |some (n,new)=>match vL s with
  |.nil=>C6 (C6 (.bad 120) (C6 (.bad 120) (grow h i.e i.s new n) (Bm new)) (Gj (n * (i.bytes+1)))) (.ok .Bv h) (Nat.beq n 0)
  |.yes b off len cap sz ex=>C6 (.bad 121) (C6 (.bad 121) (C6 (.bad 121) (Lg i b off len cap sz ex n new h) (Nat.beq sz i.s)) (Bm new)) (Gj ((len+n) * (i.bytes+1)))
  |.no=>.bad 122
 |none=>.bad 123
def Ds (e:TypeId) (s bytes:Nat) (x y:AV) (h:H):OR:=A7a ⟨e,s,bytes⟩ x y h
def fr (f:L2) (l:List (Nat × AV)):L2:=List.rec (motive:=λ_=>L2->L2) (λf=>f) (λp _ ih f=>ih (f.set p.1 p.2)) l f
def A5e (x:Option AV) (n:Nat):Option Operand:=Option.rec (motive:=λ_=>Option Operand) none (λ_=>some (.tmp n)) x
def avX (x:Option AV):AV:=Option.rec (motive:=λ_=>AV) .top (λy=>y) x
def xSl (P:Program) (t:TypeId) (x:AV) (lo hi:Option AV) (h:H):OR:=Aac t (.tmp 0) (A5e lo 1) (A5e hi 2) none 0 P Q7 (fr Az [(0,x),(1,avX lo),(2,avX hi)]) h
def xIx (P:Program) (xi:XI) (x i:AV) (h:H):OR:=
 match xi,Vg i with
 |.str,some n=>ixS x n h
 |.arr len si,some n=>match vA x with
  |.yes cs=>C6 (.bad 95) (Py (Hc P si.e cs (n * si.s)) h) (Nat.blt n len)
  |.no=>.bad 96
 |_,_=>.bad 97
def BlW (i:Option (Option Nat)) (o:Nat) (x:AV) (h:H):OR:=
 match vA x,(some (i,o):Option (Option (Option Nat) × Nat)) with
 |.yes cs,some (i,o)=>Py (Tn i cs o) h
 |_,_=>.bad 86
def xLk (P:Program) (kt:TypeId) (z:AV) (ok:Bool) (m k:AV) (h:H):OR:=
 match (some ⟨kt,z⟩:Option MI),entries m h with
 |some mi,some es=>match Bool.rec (motive:=λ_=>Option (Option AV)) none (M1 (Gy P mi.kt k) es) (Fe P mi.kt k) with
  |some (some v)=>.ok (Bool.rec (motive:=λ_=>AV) v (.Bj [v,.bool true]) ok) h
  |some none=>.ok (Bool.rec (motive:=λ_=>AV) mi.z (.Bj [mi.z,.bool false]) ok) h
  |none=>.bad 98
 |_,_=>.bad 99
def As5 (P:Program) (kt:TypeId) (z:AV) (m k x:AV) (h:H):OR:=
 match (some ⟨kt,z⟩:Option MI),vM m with
 |some mi,.yes r=>
  (match h.m.get r with
  |.map es=>match Bool.rec (motive:=λ_=>Option (List (AV × AV))) none (Z7 (Gy P mi.kt k) k x es) (Fe P mi.kt k) with|some Y8=>.ok (.Bj []) (h.put r (.map Y8))|none=>.bad 100
  |_=>.bad 101)
 |_,_=>.bad 102
def kid (c:Code) (i:Nat):Code:=
 match c,i with
 |.seq a _,0=>a
 |.seq _ b,_=>b
 |.cond _ a _,0=>a
 |.cond _ _ b,_=>b
 |.block _ a,_=>a
 |.loop a,_=>a
 |.scope a,_=>a
 |c,_=>c
def sub (c:Code) (l:List Nat):Code:=List.rec (motive:=λ_=>Code->Code) (λc=>c) (λi _ ih c=>ih (kid c i)) l c
def Bc (P:Program) (g:FuncId):Code:=match Ln P g with|some i=>i.body|none=>.skip
def As (P:Program) (g:FuncId):List ResultVar:=match Ln P g with|some i=>i.rs|none=>[]
inductive RX where
 |v (x:AV)
 |c (i:Option (Option Nat)) (x:AV)
def AzF (h:H):List RX->Option (List AV)
 |[]=>some []
 |.v x::rs=>match AzF h rs with|some l=>some (x::l)|none=>none
 |.c i x::rs=>match AyY i x h,AzF h rs with|some v,some l=>some (v::l)|_,_=>none
def Vk (rs:List RX) (h:H):OR:=match AzF h rs with|some l=>.ok (single l) h|none=>.bad 197
def mnm (P:Program) (t:TypeId) (i:Nat):String:=match P.info? t with|some x=>(match x.methods[i]? with|some m=>m.name|none=>Jk)|none=>Jk
def AqV (x:AV):RS:=match x with|.map _=>.all|_=>.none
def A6r (k:IntKind) (x:AV) (h:H):OR:=match vI x with|.yes _ n=>.ok (.int k (E1 k n)) h|.no=>.bad 47
end
end Go.Ev
namespace Go.Ev.Sx
open Go.Ev
variable [Ii]
variable {P:Program} {ctx:Ac} {h h0 h1:H} {v x y:AV}
@[simp] theorem N2 (v:AV) (h:H) (k:AV->H->OR):Aa (.ok v h) k=k v h:=rfl
theorem Si (v:AV) (h0 h1:H) (k:AV->H->OR) (hq:wrote h0.nx h1.lg=[]):Al h0 (.ok v h1) k=k v h1:=by
 show (Bool.rec (motive:=λ_=>OR) (.bad 409) (k v h1) (Q6 (wrote h0.nx h1.lg)):OR)=_
 rw [hq]
 rfl
@[simp] theorem Hv v h0 h1 k:Al h0 (.ok v (Ab h1)) k=k v (Ab h1):=Si v _ _ k rfl
@[simp] theorem Ep (a b:OR):Af (.bool true) a b=a:=rfl
@[simp] theorem Dq (a b:OR):Af (.bool false) a b=b:=rfl
@[simp] theorem A5u (r:OR) (h:H):Ad (.bool true) true r h=r:=rfl
@[simp] theorem Kk (r:OR) (h:H):Ad (.bool false) false r h=r:=rfl
@[simp] theorem A5t (r:OR) (h:H):Ad (.bool true) false r h=.ok (.Bj []) h:=rfl
@[simp] theorem A5s (r:OR) (h:H):Ad (.bool false) true r h=.ok (.Bj []) h:=rfl
@[simp] theorem A0V (l:List AV) (w:Bool) (r:OR) (h:H):Ad (.Bj l) w r h=.ok (.Bj []) h:=rfl
@[simp] theorem A68 (x y:AV) (h:H):Bo (.bool true) x y h=.ok x h:=rfl
@[simp] theorem A67 (x y:AV) (h:H):Bo (.bool false) x y h=.ok y h:=rfl
@[simp] theorem Auu:(Ab h).m=h.m:=rfl
@[simp] theorem AcQ:(Ab h).nx=h.nx:=rfl
@[simp] theorem B9:(Ab h).lg=[]:=rfl
@[simp] theorem Te:Ab (Ab h)=Ab h:=rfl
@[simp] theorem A6A (lg:List Nat):(Be lg h).m=h.m:=rfl
@[simp] theorem Ait (lg:List Nat):(Be lg h).nx=h.nx:=rfl
@[simp] theorem Ca (lg:List Nat):(Be lg h).lg=lg:=rfl
@[simp] theorem Ais:Be h.lg (Ab h)=h:=rfl
@[simp] theorem Z9 (o:AO):(h.new o).nx=h.nx+1:=rfl
@[simp] theorem Dn (o:AO):(h.new o).lg=h.lg:=rfl
@[simp] theorem ArH (b:Nat) (o:AO):(h.put b o).nx=h.nx:=rfl
@[simp] theorem Dp (b:Nat) (o:AO):(h.put b o).lg=b::h.lg:=rfl
theorem Ni o b (h1:h.nx<Bq) (h2:b<Bq):(h.new o).m.get b=if b=h.nx then o else h.m.get b:=KM.Dh _ _ _ _ h1 h2
theorem Ph c o b (h1:c<Bq) (h2:b<Bq):(h.put c o).m.get b=if b=c then o else h.m.get b:=KM.Dh _ _ _ _ h1 h2
theorem A6 o (h1:h.nx<Bq):(h.new o).m.get h.nx=o:=by rw [Ni o _ h1 h1,if_pos rfl]
theorem H3 o b (h1:h.nx<Bq) (h2:b<Bq) (h3:b≠h.nx):(h.new o).m.get b=h.m.get b:=by rw [Ni o _ h1 h2,if_neg h3]
theorem Dz c o (h1:c<Bq):(h.put c o).m.get c=o:=by rw [Ph c o _ h1 h1,if_pos rfl]
theorem Db (c:Nat) (o:AO) (b:Nat) (h1:c<Bq) (h2:b<Bq) (h3:b≠c):(h.put c o).m.get b=h.m.get b:=by rw [Ph c o _ h1 h2,if_neg h3]
omit [Ii] in
theorem AcO (o:AO) (b:Nat):(h.new o).m.get b=if b=h.nx then o else h.m.get b:=KM.N5 h.m h.nx b o
omit [Ii] in
theorem Air (c:Nat) (o:AO) (b:Nat):(h.put c o).m.get b=if b=c then o else h.m.get b:=KM.N5 h.m c b o
omit [Ii] in
@[simp] theorem Bf (o:AO):(h.new o).m.get h.nx=o:=by rw [AcO,if_pos rfl]
omit [Ii] in
@[simp] theorem A2 (c:Nat) (o:AO):(h.put c o).m.get c=o:=by rw [Air,if_pos rfl]
omit [Ii] in
@[simp 900] theorem Cq (o:AO) (b:Nat) (h3:b≠h.nx):(h.new o).m.get b=h.m.get b:=by rw [AcO,if_neg h3]
omit [Ii] in
@[simp 900] theorem Aq (c:Nat) (o:AO) (b:Nat) (h3:b≠c):(h.put c o).m.get b=h.m.get b:=by rw [Air,if_neg h3]
omit [Ii] in
@[simp 800] theorem Azz (o:AO) (b:Nat) (h3:b<=h.nx) (h4:h.nx<=b):(h.new o).m.get b=o:=by rw [AcO,if_pos om]
omit [Ii] in
@[simp] theorem Bx (n:Nat):wrote n []=[]:=rfl
theorem Am (n b:Nat) (l:List Nat) (hb:n<=b):wrote n (b::l)=wrote n l:=by
 show (Bool.rec (motive:=λ_=>List Nat) (wrote n l) (b::wrote n l) (Nat.blt b n):List Nat)=_
 have:Nat.blt b n=false:=by
  cases hx:Nat.blt b n with
  |false=>rfl
  |true=>
   have h3:b<n:=by simpa using hx
   omega
 rw [this]
theorem AaS (b:Nat):h.rd b=rdO (h.m.get b) h:=rfl
@[simp] theorem AnQ (c:List AV) (e:TypeId):rdO (.cells c e .exact) h=some c:=rfl
@[simp] theorem A69 (c:List AV) (e:TypeId) (k:Nat):rdO (.cells c e (.Gt k)) h=some c:=rfl
@[simp] theorem As0 (b off:Nat) (vs:List AV):h.wr b off vs=wrO (h.m.get b) b off vs h:=rfl
@[simp] theorem Afa (c:List AV) (e:TypeId) (b off:Nat) (vs:List AV):wrO (.cells c e .exact) b off vs h=wrL (Ng c vs off) b e h:=rfl
@[simp] theorem AuX (c:List AV) (e:TypeId) (k:Nat) (b off:Nat) (vs:List AV):wrO (.cells c e (.Gt k)) b off vs h=wrT (Ng c vs off) (Aj3 (h.m.get k)) k b e h:=rfl
@[simp] theorem AiK (c:List AV) (b:Nat) (e:TypeId):wrL (some c) b e h=.ok (h.put b (.cells c e .exact)):=rfl
@[simp] theorem Asz (c:List AV) (n k b:Nat) (e:TypeId):wrT (some c) (some n) k b e h=.ok ((h.put b (.cells c e (.Gt k))).put k (.Fb (n+1))):=rfl
@[simp] theorem Sn (n:Nat):Aj3 (.Fb n)=some n:=rfl
@[simp] theorem Agc:AnU (.ok h)=.ok (.Bj []) h:=rfl
@[simp] theorem AvB (k:IntKind) (n:Int):cellsOf (.int k n)=some [.int k n]:=rfl
@[simp] theorem Ati (b:Bool):cellsOf (.bool b)=some [.bool b]:=rfl
@[simp] theorem AvH (s:List Nat):cellsOf (.str s)=some [.str s]:=rfl
@[simp] theorem AvA (t:TypeId) (x:AV):cellsOf (.I6 t x)=some [.I6 t x]:=rfl
@[simp] theorem Atj:cellsOf .B3=some [.B3]:=rfl
@[simp] theorem AvE:cellsOf .Bv=some [.Bv]:=rfl
@[simp] theorem AxH (b o l c z:Nat) (e:Bool):cellsOf (.sl b o l c z e)=some [.sl b o l c z e]:=rfl
@[simp] theorem AvF (b o:Nat):cellsOf (.ptr b o)=some [.ptr b o]:=rfl
@[simp] theorem Av9 (l:List AV):cellsOf (.agg l)=some l:=rfl
@[simp] theorem AvD:cellsOf .Iy=some [.Iy]:=rfl
@[simp] theorem AxG (f:Fn) (a c:List AV):cellsOf (.fn f a c)=some [.fn f a c]:=rfl
@[simp] theorem A4W (k:IntKind) (n:Int):Ge (.int k n)=true:=rfl
@[simp] theorem A06 (b:Bool):Ge (.bool b)=true:=rfl
@[simp] theorem A5c (s:List Nat):Ge (.str s)=true:=rfl
@[simp] theorem A4V (t:TypeId) (x:AV):Ge (.I6 t x)=true:=rfl
@[simp] theorem A07:Ge .B3=true:=rfl
@[simp] theorem A4Z:Ge .Bv=true:=rfl
@[simp] theorem A66 (b o l c z:Nat) (e:Bool):Ge (.sl b o l c z e)=true:=rfl
@[simp] theorem A5a (b o:Nat):Ge (.ptr b o)=true:=rfl
@[simp] theorem A4Y:Ge .Iy=true:=rfl
@[simp] theorem A65 (f:Fn) (a c:List AV):Ge (.fn f a c)=true:=rfl
@[simp] theorem A09:Ge .Ob=true:=rfl
@[simp] theorem A4X (r:Nat):Ge (.map r)=true:=rfl
@[simp] theorem A08:Ge .Td=true:=rfl
@[simp] theorem Atl:cellsOf .Ob=some [.Ob]:=rfl
@[simp] theorem AvC (r:Nat):cellsOf (.map r)=some [.map r]:=rfl
@[simp] theorem Atk:cellsOf .Td=some [.Td]:=rfl
@[simp] theorem Awo:Bm []=true:=rfl
@[simp] theorem Auc (a:AV) (l:List AV):Bm (a::l)=(Ge a&&Bm l):=by
 show (Bool.rec (motive:=λ_=>Bool) false (Bm l) (Ge a):Bool)=_
 cases Ge a<;>rfl
@[simp] theorem A4C (l:List AV):Q4 l=l.length:=Gh l
@[simp] theorem AhR (l:List AV) (n:Nat):AcE l n=l[n]?:=Ab6 l n
@[simp] theorem A0G (v:AV):Py (some v) h=.ok v h:=rfl
@[simp] theorem Awx (c:List AV):Ly (some c) h=.ok (.agg c) h:=rfl
@[simp] theorem AlL (c:List AV) (o:Nat):ldL (some none) c o h=Py (AcE c o) h:=rfl
@[simp] theorem AcC (n:Nat) (c:List AV) (o:Nat):ldL (some (some n)) c o h=Ly (Nf c o n) h:=rfl
@[simp] theorem Nu (i:Option (Option Nat)) (b o:Nat):Ae i (.ptr b o) h=ldC (rdO (h.m.get b) h) i o h:=rfl
@[simp] theorem S9 (c:List AV) (i:Option (Option Nat)) (o:Nat):ldC (some c) i o h=ldL i c o h:=rfl
@[simp] theorem Adt (n b o:Nat) (x:AV):A4 n (.ptr b o) x h=stC (cellsOf x) (some n) b o h:=rfl
@[simp] theorem AiA (cs:List AV) (n b o:Nat):stC (some cs) (some n) b o h=if cs.length=n/\Bm cs=true then AnU (h.wr b o cs) else .bad 26:=by
 show (Bool.rec (motive:=λ_=>OR) (.bad 26) (Bool.rec (motive:=λ_=>OR) (.bad 26) (AnU (h.wr b o cs)) (Bm cs)) (Nat.beq (Q4 cs) n):OR)=_
 rw [Gh]
 by_cases h1:cs.length=n
 . rw [h1,Nat.beq_refl]
   cases h2:Bm cs<;>simp [h1]
 . rw [if_neg (λhh=>h1 hh.1)]
   have:Nat.beq cs.length n=false:=by
    cases hb:Nat.beq cs.length n with
    |false=>rfl
    |true=>exact absurd (Nat.eq_of_beq_eq_true hb) h1
   rw [this]
@[simp] theorem Hg (e:TypeId) (l:List AV):Oy e (.agg l) h=.ok (.ptr h.nx 0) (h.new (.cells l e .exact)):=rfl
@[simp] theorem AeI (o:AO) (v:AV):mk h o v=.ok v (h.new o):=rfl
@[simp] theorem E3 (b o d:Nat):Bs (.ptr b o) d h=.ok (.ptr b (o+d)) h:=rfl
@[simp] theorem I0 (b o:Nat):Fu (.ptr b o) h=.ok (.ptr b o) h:=rfl
@[simp] theorem A5R (l:List AV) (i:Nat):L9 (.Bj l) i h=Py (AcE l i) h:=rfl
@[simp] theorem A0d (cs:List AV):Sr [] cs=some cs:=rfl
def ApR (off size:Nat) (rest:List (Nat × Nat × AV)) (cs:List AV) (x:Option (List AV)):Option (List AV):=
 match x with
 |some v=>if off+v.length<=cs.length/\v.length=size then Sr rest (cs.take off++v++cs.drop (off+v.length)) else none
 |none=>none
@[simp] theorem AxS off size x rest cs:Sr ((off,size,x)::rest) cs=ApR off size rest cs (cellsOf x):=by
 show (match some (off,size),cellsOf x with
  |some (off,size),some v=>match Ng _ v _ with|some _=>Bool.rec _ ..|none=>none
  |_,_=>none)=_;unfold ApR;cases cellsOf x with
 |none=>rfl
 |some v=>
  simp [Kh,Gh];by_cases h1:off+v.length<=cs.length
  . by_cases h2:v.length=size;. rw [if_pos h1,if_pos ⟨h1,h2⟩];simp [h2,Nat.beq_refl]
    . rw [if_pos h1,if_neg λhh=>h2 hh.2];have:Nat.beq v.length size=false:=by cases hb:Nat.beq .. with
       |false=>rfl
       |true=>exact absurd (Nat.eq_of_beq_eq_true hb) h2
      simp [this]
  . rw [if_neg h1,if_neg λhh=>h1 hh.1]
@[simp] theorem AxR (off size:Nat) (rest:List (Nat × Nat × AV)) (cs v:List AV):ApR off size rest cs (some v)=if off+v.length<=cs.length/\v.length=size then Sr rest (cs.take off++v++cs.drop (off+v.length)) else none:=rfl
@[simp] theorem A1b (z:List AV) (l:List (Nat × Nat × AV)):B7 z l h=Ly (Sr l z) h:=rfl
def bsl (x:Option (List AV)) (e:TypeId) (s n:Nat) (h:H):OR:=match x with
 |some cs=>.ok (.sl h.nx 0 n n s true) (h.new (.cells cs e .exact))
 |none=>.bad 20
@[simp] theorem A1V (cs:List AV) (e:TypeId) (s n:Nat):bsl (some cs) e s n h=.ok (.sl h.nx 0 n n s true) (h.new (.cells cs e .exact)):=rfl
@[simp] theorem AwA (e:TypeId) (s n:Nat) (z:List AV) (l:List (Nat × Nat × AV)):Bh e s n z l h=bsl (Sr l z) e s n h:=by
 unfold Bh bsl
 cases Sr l z<;>rfl
theorem X7 (a b:Int):ieq a b=decide (a=b):=by rw [Q1];by_cases hh:a=b<;>simp [hh]
@[simp] theorem A5y t c a b:Aj P .eql t c (.int .i64 a) (.int .i64 b) h=.ok (.bool (decide (a=b))) h:=by rw [<- X7];rfl
@[simp] theorem Y6 t c a b:Aj P .neq t c (.int .i64 a) (.int .i64 b) h=.ok (.bool !decide (a=b)) h:=by rw [<- X7];show OR.ok (.bool (Ib _)) h=_;cases ieq a b<;>rfl
@[simp] theorem Hf (t:TypeId) (c:Bool) (a b:Int):Aj P .lss t c (.int .i64 a) (.int .i64 b) h=.ok (.bool (decide (a<b))) h:=by rw [<- Il];rfl
@[simp] theorem A5z (t:TypeId) (c:Bool) (a b:Int):Aj P .gtr t c (.int .i64 a) (.int .i64 b) h=.ok (.bool (decide (b<a))) h:=by rw [<- Il];rfl
@[simp] theorem As2 (t:TypeId) (c:Bool) (a b:Int):Aj P .leq t c (.int .i64 a) (.int .i64 b) h=.ok (.bool (decide (a<=b))) h:=by
 show OR.ok (.bool (Ib (ilt b a))) h=_
 rw [Il];by_cases hh:b<a
 . have:¬ a<=b:=by omega
   simp [hh,this,Ib]
 . have:a<=b:=by omega
   simp [hh,this,Ib]
@[simp] theorem As1 (t:TypeId) (c:Bool) (a b:Int):Aj P .geq t c (.int .i64 a) (.int .i64 b) h=.ok (.bool (decide (b<=a))) h:=by
 show OR.ok (.bool (Ib (ilt a b))) h=_
 rw [Il];by_cases hh:a<b
 . have:¬ b<=a:=by omega
   simp [hh,this,Ib]
 . have:b<=a:=by omega
   simp [hh,this,Ib]
@[simp] theorem Uc (t:TypeId) (c:Bool) (a b:Int):Aj P .add t c (.int .i64 a) (.int .i64 b) h=.ok (.int .i64 (E1 .i64 (a+b))) h:=rfl
@[simp] theorem As3 (t:TypeId) (c:Bool) (a b:Int):Aj P .sub t c (.int .i64 a) (.int .i64 b) h=.ok (.int .i64 (E1 .i64 (a - b))) h:=rfl
@[simp] theorem A50 (t:TypeId) (c:Bool) (a b:Int):Aj P .mul t c (.int .i64 a) (.int .i64 b) h=.ok (.int .i64 (E1 .i64 (a * b))) h:=rfl
theorem Cr (n:Int) (h1:-9223372036854775808<=n) (h2:n<=9223372036854775807):E1 .i64 n=n:=by
 unfold E1 fits
 rw [Il,Il]
 have e1:¬ (n<IntKind.min .i64):=by show ¬ (n < -9223372036854775808);omega
 have e2:¬ (IntKind.max .i64<n):=by show ¬ ((9223372036854775807:Int)<n);omega
 rw [decide_eq_false e1,decide_eq_false e2]
theorem Aap (a b:List Nat):Qh a b=decide (a=b):=by rw [Qi];by_cases hh:a=b<;>simp [hh]
@[simp] theorem A0X t c a b:Aj P .eql t c (.str a) (.str b) h=.ok (.bool (decide (a=b))) h:=by rw [<- Aap];rfl
@[simp] theorem A1a t c a b:Aj P .neq t c (.str a) (.str b) h=.ok (.bool !decide (a=b)) h:=by rw [<- Aap];show OR.ok (.bool (Ib _)) h=_;cases Qh a b<;>rfl
@[simp] theorem A0Z (t:TypeId) (c:Bool) (a b:List Nat):Aj P .lss t c (.str a) (.str b) h=.ok (.bool (Gn a b)) h:=rfl
@[simp] theorem A0Y (t:TypeId) (c:Bool) (a b:List Nat):Aj P .gtr t c (.str a) (.str b) h=.ok (.bool (Gn b a)) h:=rfl
@[simp] theorem A6N (b:Bool):Qe .not (.bool b) h=.ok (.bool (!b)) h:=by cases b<;>rfl
@[simp] theorem A6M (n:Int):Qe .neg (.int .i64 n) h=.ok (.int .i64 (E1 .i64 (0 - n))) h:=rfl
@[simp] theorem A6L (z:AV) (t u:Nat) (x:AV):xTA z t true (.I6 u x) h=if u=t then .ok (.Bj [x,.bool true]) h else .ok (.Bj [z,.bool false]) h:=by
 show (C6 _ _ (Nat.beq u t):OR)=_
 by_cases hh:u=t
 . rw [if_pos hh,hh,Nat.beq_refl]
 . rw [if_neg hh]
   have:Nat.beq u t=false:=by
    cases hb:Nat.beq u t with
    |false=>rfl
    |true=>exact absurd (Nat.eq_of_beq_eq_true hb) hh
   rw [this]
def A5j (x:Option (List AV)) (o n:Nat) (h:H):OR:=match x with
 |some c=>if o+n<=c.length then .ok (.agg ((c.drop o).take n)) h else .bad 197
 |none=>.bad 197
@[simp] theorem AeO (c:List AV) (o n:Nat):A5j (some c) o n h=if o+n<=c.length then .ok (.agg ((c.drop o).take n)) h else .bad 197:=rfl
@[simp] theorem BaC b o n:Vk [.c (some (some n)) (.ptr b o)] h=A5j (rdO (h.m.get b) h) o n h:=by show (match match match h.rd b with|some c=>Tn _ c o|none=>none,some _ with|some v,some l=>some (v::l)|_,_=>none with|some l=>OR.ok _ h|none=>.bad _)=_;rw [AaS];cases rdO _ h with
 |none=>rfl
 |some c=>
  show (match match (Nf c o n).map AV.agg,some _ with|some v,some l=>some (v::l)|_,_=>none with|some l=>OR.ok _ h|none=>.bad _)=_;rw [E5];by_cases hh:o+n<=c.length;. rw [if_pos hh,AeO,if_pos hh];rfl
  simp [*]
@[simp] theorem AxK (g:FuncId) (args:List AV):cvV (.fn (.func g) [] []) args P ctx h=if Bg P g=true then ctx.call g args h else AgK (Uk P g) args h:=by
 show (Bool.rec (motive:=λ_=>OR) (AgK (Uk P g) (J0 (J0 [] args) []) h) (ctx.call g (J0 (J0 [] args) []) h) (Bg P g):OR)=_
 rw [Dl,Dl]
 simp only [List.nil_append,List.append_nil]
 cases Bg P g<;>rfl
@[simp] theorem A4J (k:IntKind) (n:Int) (hn:0<=n):Vg (.int k n)=some n.toNat:=by
 cases n with
 |ofNat m=>rfl
 |negSucc m=>omega
@[simp] theorem A03 (k:IntKind) (n:Nat):Vg (.int k (n:Int))=some n:=rfl
def ixA (P:Program) (si:SI) (len:Nat) (cs:List AV) (n:Option Nat) (h:H):OR:=match n with
 |some n=>if n<len then Py (Hc P si.e cs (n * si.s)) h else .bad 95
 |none=>.bad 97
@[simp] theorem A40 (si:SI) (len:Nat) (cs:List AV) (n:Nat):ixA P si len cs (some n) h=if n<len then Py (Hc P si.e cs (n * si.s)) h else .bad 95:=rfl
@[simp] theorem A6I (len:Nat) (si:SI) (cs:List AV) (i:AV):xIx P (.arr len si) (.agg cs) i h=ixA P si len cs (Vg i) h:=by
 unfold xIx ixA
 cases Vg i with
 |none=>rfl
 |some n=>
  show (C6 (.bad 95) (Py (Hc P si.e cs (n * si.s)) h) (Nat.blt n len):OR)=if n<len then Py (Hc P si.e cs (n * si.s)) h else .bad 95
  by_cases hh:n<len
  . rw [if_pos hh,show Nat.blt n len=true by simpa using hh]
  . rw [if_neg hh,show Nat.blt n len=false by cases hb:Nat.blt n len with|false=>rfl|true=>exact absurd (by simpa using hb) hh]
@[simp] theorem A0A (cs:List AV) (o:Nat):Tn (some none) cs o=AcE cs o:=rfl
@[simp] theorem A5h (t:TypeId) (cs:List AV) (o:Nat):Hc P t cs o=Tn (Ft P t) cs o:=rfl
def AyV (r:Nat) (es:Option (List (AV × AV))) (h:H):OR:=match es with|some Y8=>.ok (.Bj []) (h.put r (.map Y8))|none=>.bad 100
@[simp] theorem A0x (r:Nat) (es:List (AV × AV)):AyV r (some es) h=.ok (.Bj []) (h.put r (.map es)):=rfl
def A4z (P:Program) (kt:TypeId) (k x:AV) (r:Nat) (o:AO) (h:H):OR:=match o with
 |.map es=>AyV r (if Fe P kt k=true then Z7 (Gy P kt k) k x es else none) h
 |_=>.bad 101
@[simp] theorem AqR (kt:TypeId) (k x:AV) (r:Nat) (es:List (AV × AV)):A4z P kt k x r (.map es) h=AyV r (if Fe P kt k=true then Z7 (Gy P kt k) k x es else none) h:=rfl
@[simp] theorem A53 kt z r k x:As5 P kt z (.map r) k x h=A4z P kt k x r (h.m.get r) h:=by
 show (match h.m.get r with
  |.map _=>match Bool.rec (motive:=λ_=>Option (List (AV × AV))) _ .. with|some _=>OR.ok ..|none=>.bad _
  |_=>.bad _)=_;cases h.m.get r with
 |map es=>rw [AqR];cases Fe P _ k with
  |true=>rfl
  |false=>rfl
 |_=>rfl
def lkM (z:AV) (ok:Bool) (x:Option (Option AV)) (h:H):OR:=match x with
 |some (some v)=>.ok (if ok=true then .Bj [v,.bool true] else v) h
 |some none=>.ok (if ok=true then .Bj [z,.bool false] else z) h
 |none=>.bad 98
@[simp] theorem A4B (z v:AV) (ok:Bool):lkM z ok (some (some v)) h=.ok (if ok=true then .Bj [v,.bool true] else v) h:=rfl
@[simp] theorem A4A (z:AV) (ok:Bool):lkM z ok (some none) h=.ok (if ok=true then .Bj [z,.bool false] else z) h:=rfl
def lkO (P:Program) (kt:TypeId) (z:AV) (ok:Bool) (k:AV) (o:AO) (h:H):OR:=match o with
 |.map es=>lkM z ok (if Fe P kt k=true then M1 (Gy P kt k) es else none) h
 |_=>.bad 99
@[simp] theorem Auf (kt:TypeId) (z k:AV) (ok:Bool) (es:List (AV × AV)):lkO P kt z ok k (.map es) h=lkM z ok (if Fe P kt k=true then M1 (Gy P kt k) es else none) h:=rfl
@[simp] theorem A6J kt z ok r k:xLk P kt z ok (.map r) k h=lkO P kt z ok k (h.m.get r) h:=by
 show (match (some _:Option MI),match h.m.get r with|.map es=>some es|_=>none with
  |some _,some _=>match Bool.rec (motive:=λ_=>Option (Option AV)) _ .. with
   |some (some v)=>OR.ok _ h
   |some none=>.ok _ h
   |none=>.bad _
  |_,_=>.bad _)=_;cases h.m.get r with
 |map es=>rw [Auf];show (match Bool.rec (motive:=λ_=>Option (Option AV)) _ .. with
   |some (some v)=>OR.ok _ h
   |some none=>.ok _ h
   |none=>.bad _)=_;cases Fe P _ k with
  |true=>cases M1 .. with
   |none=>rfl
   |some x=>cases ok<;>rfl
  |false=>rfl
 |_=>rfl
theorem Aka {t:TypeId} (ht:tk P t=.int) (x:AV):Fe P t x=true:=by unfold Fe;rw [ht]
theorem Anm {t} (ht:tk P t=.int) a b:Gy P t (.int .i64 a) (.int .i64 b)=some (decide (a=b)):=by
 have h1:aeq P 3 t (.int .i64 a) (.int .i64 b)=some (decide (a=b)):=by show Dy P _ t ..=_;unfold Dy;rw [ht,<- X7];rfl
 unfold Gy;rw [h1];by_cases hh:a=b;. simp [hh,decide_true];unfold Up;rw [ht]
 grind
@[simp] theorem A62:Fo .Bv h=.ok (.int .i64 0) h:=rfl
@[simp] theorem A98 (b o l c z:Nat) (e:Bool):Fo (.sl b o l c z e) h=.ok (.int .i64 (l:Int)) h:=rfl
@[simp] theorem A63 (s:List Nat):lnS (.str s) h=.ok (.int .i64 (s.length:Int)) h:=by show OR.ok (.int .i64 (.ofNat (Y2 s))) h=_;rw [Rf];rfl
theorem Agr (s b o l c z:Nat) (e:Bool) (n:Nat) (hn:n<l):Gc s (.sl b o l c z e) (.int .i64 (n:Int)) h=.ok (.ptr b (o+n * s)) h:=by
 show (Bool.rec (motive:=λ_=>OR) (.bad 88) (.ok (.ptr b (Nat.add o (Nat.mul n s))) h) (Nat.blt n l):OR)=_
 rw [show Nat.blt n l=true by simpa using hn]
 rfl
def Comes (r:OR) (Q:AV->H->Prop):Prop:=∃v h',r=.ok v h'/\Q v h'
variable {Q R:AV->H->Prop} {k:AV->H->OR} {r:OR} {a b:OR}
theorem O5 (hc:Comes (k v (Ab h)) Q):Comes (Al h0 (.ok v (Ab h)) k) Q:=by simp [*]
theorem Aca (hq:wrote h0.nx h1.lg=[]) (hc:Comes (k v h1) Q):Comes (Al h0 (.ok v h1) k) Q:=by rw [Si v _ _ k hq];omega
theorem Aj2 {c:Bool} (ha:c=true->Comes a Q) (hb:c=false->Comes b Q):Comes (Af (.bool c) a b) Q:=by
 cases c
 . exact hb rfl
 . exact ha rfl
theorem Afs {c:Bool} (ht:c=true->Comes (Aa r k) Q) (hf:c=false->Comes (k (.Bj []) h) Q):Comes (Aa (Ad (.bool c) true r h) k) Q:=by
 cases c
 . exact hf rfl
 . exact ht rfl
theorem Afr {c:Bool} (ht:c=true->Comes (k (.Bj []) h) Q) (hf:c=false->Comes (Aa r k) Q):Comes (Aa (Ad (.bool c) false r h) k) Q:=by
 cases c
 . exact hf rfl
 . exact ht rfl
theorem AdC {c:Bool} (ht:c=true->Comes (Al h0 r k) Q) (hf:c=false->Comes (Al h0 (.ok (.Bj []) h) k) Q):Comes (Al h0 (Ad (.bool c) true r h) k) Q:=by
 cases c
 . exact hf rfl
 . exact ht rfl
theorem AdB {c:Bool} (ht:c=true->Comes (Al h0 (.ok (.Bj []) h) k) Q) (hf:c=false->Comes (Al h0 r k) Q):Comes (Al h0 (Ad (.bool c) false r h) k) Q:=by
 cases c
 . exact hf rfl
 . exact ht rfl
@[simp] theorem A01 (a:AV) (l:List AV):(a::l)[0]?=some a:=rfl
@[simp] theorem A00 (a:AV) (l:List AV) (n:Nat):(a::l)[n+1]?=l[n]?:=rfl
structure Small (n:Nat) (h h':H):Prop where
 nx:h.nx<=h'.nx/\h'.nx<=h.nx+n
 lg:∀x∈h'.lg,x∈h.lg\/h.nx<=x
def Out (n:Nat) (h:H) (u:AV):AV->H->Prop:=λv h'=>v=u/\Small n h h'
theorem A0 {n:Nat} {u:AV} (hv:v=u) (h1:h0.nx<=h.nx) (h2:h.nx<=h0.nx+n) (h3:∀x∈h.lg,x∈h0.lg\/h0.nx<=x):Comes (.ok v h) (Out n h0 u):=⟨v,h,rfl,hv,⟨h1,h2⟩,h3⟩
end Go.Ev.Sx
namespace Go.Ev.Sx
open Go.Ev
variable [Ii]
variable {P:Program} {ctx:Ac} {h h0 h1 h2:H} {v x y:AV} {n m:Nat}
structure Ext (n:Nat) (h h':H):Prop where
 lo:h.nx<=h'.nx
 hi:h'.nx<=h.nx+n
 Cf:∀b,b<h.nx->h'.m.get b=h.m.get b
 lg:∀x∈h'.lg,x∈h.lg\/h.nx<=x
theorem Ext.refl (n:Nat) (h:H):Ext n h h:=⟨Nat.le_refl _,Nat.le_add_right _ _,λ_ _=>rfl,λ_ hx=>.inl hx⟩
theorem Ext.small (e:Ext n h h1):Small n h h1:=⟨⟨e.lo,e.hi⟩,e.lg⟩
theorem Ext.trans (e:Ext n h h1) (e':Ext m h1 h2):Ext (n+m) h h2:=
 ⟨Nat.le_trans e.lo e'.lo,by have:=e.hi;have:=e'.hi;omega,λb hb=>by rw [e'.Cf b (Nat.lt_of_lt_of_le hb e.lo),e.Cf b hb],λx hx=>by
  rcases e'.lg x hx with h3|h3
  . exact e.lg x h3
  . exact .inr (Nat.le_trans e.lo h3)⟩
theorem Ext.mono (e:Ext n h h1) (hm:n<=m):Ext m h h1:=⟨e.lo,by have:=e.hi;omega,e.Cf,e.lg⟩
theorem Ext.new (e:Ext n h h1) o (hl:h1.nx<Bq):Ext (n+1) h (h1.new o):=
 ⟨by show h.nx<=h1.nx+1;have:=e.lo;omega,by show h1.nx+1<=_;have:=e.hi;omega,λb hb=>by rw [H3 o b hl (by have:=e.lo;omega) (by have:=e.lo;omega),e.Cf b hb],e.lg⟩
theorem Ext.put (e:Ext n h h1) c o (hc:h.nx<=c) (hl:c<Bq):Ext n h (h1.put c o):=
 ⟨e.lo,e.hi,λb hb=>by rw [Db c o b hl om om,e.Cf b hb],λx hx=>by
  rcases List.mem_cons.1 hx with rfl|hx;. omega
  . exact e.lg x hx⟩
theorem Ext.Ab (e:Ext n h h1):Ext n h (Ab h1):=⟨e.lo,e.hi,e.Cf,λx hx=>by cases hx⟩
def Cb (n:Nat) (h:H) (Q:AV->H->Prop) (r:OR):Prop:=∃v h',r=.ok v h'/\Ext n h h'/\Q v h'
def readable:CK->Prop
 |.exact=>True
 |.Gt _=>True
 |_=>False
theorem Dc {c:List AV} {e:TypeId} {k:CK} (hk:readable k):rdO (.cells c e k) h=some c:=by cases k<;>first|rfl|cases hk
structure Oq (s:Nat) (h:H) (v:AV) (len:Nat) (c:List AV):Prop where
 at':(len=0/\c=[]/\v=.Bv)\/∃b off cap ex cs e k,v=.sl b off len cap s ex/\len<=cap/\h.m.get b=.cells cs e k/\readable k/\b<h.nx/\off+len * s<=cs.length/\(cs.drop off).take (len * s)=c
theorem Oq.ext {s len:Nat} {c:List AV} (hs:Oq s h v len c) (e:Ext n h h1):Oq s h1 v len c:=by
 rcases hs.at' with h3|⟨b,off,cap,ex,cs,e',k,q1,q2,q3,q4,q5,q6⟩
 . exact ⟨.inl h3⟩
 . exact ⟨.inr ⟨b,off,cap,ex,cs,e',k,q1,q2,by rw [e.Cf b q5];exact q3,q4,Nat.lt_of_lt_of_le q5 e.lo,q6⟩⟩
theorem Oq.len {s len:Nat} {c:List AV} (hs:Oq s h v len c):Fo v h1=.ok (.int .i64 (len:Int)) h1:=by
 rcases hs.at' with ⟨rfl,_,rfl⟩|⟨b,off,cap,ex,cs,e',k,rfl,_⟩<;>rfl
theorem Oq.Rv {s len:Nat} {c:List AV} (hs:Oq s h v len c):c.length=len * s:=by
 rcases hs.at' with ⟨rfl,rfl,rfl⟩|⟨b,off,cap,ex,cs,e',k,q1,q2,q3,q4,q5,q6,q7⟩
 . simp
 . rw [<- q7,List.length_take,List.length_drop];omega
theorem Oq.src {s len} {c} (hs:Oq s h v len c):Hd h s v=some (len,c):=by
 rcases hs.at' with ⟨rfl,rfl,rfl⟩|⟨b,off,cap,ex,cs,e',k,rfl,q2,q3,q4,q5,q6,q7⟩;. rfl
 . show (match h.rd b with|some c=>(Nf c ..).map _|none=>none)=_;rw [AaS,q3,Dc q4];simp [E5];grind
theorem Oq.ia {s len} {c} (hs:Oq s h v len c) {i} (hi:i<len):∃b o cs e k,(∀h1,Gc s v (.int .i64 i) h1=.ok (.ptr b o) h1)/\h.m.get b=.cells cs e k/\readable k/\b<h.nx/\o+s<=cs.length/\(cs.drop o).take s=(c.drop (i * s)).take s:=by
 rcases hs.at' with ⟨rfl,rfl,rfl⟩|⟨b,off,cap,ex,cs,e',k,rfl,q2,q3,q4,q5,q6,q7⟩;. omega
 . have h5:i * s+s<=len * s:=by have:=Nat.mul_le_mul_right s (show i+1<=len by omega);grind
   refine ⟨b,_,_,_,k,λh1=>Agr s b _ _ _ s _ i hi,q3,q4,q5,by omega,?_⟩;rw [<- q7,List.drop_take,List.take_take,List.drop_drop];grind
theorem Nr {b o n} {cs} {e} {k} (hg:h.m.get b=.cells cs e k) (hk:readable k) (ho:o+n<=cs.length):Ae (some (some n)) (.ptr b o) h=.ok (.agg ((cs.drop o).take n)) h:=by rw [Nu,hg,Dc hk,S9,AcC,E5,if_pos ho];rfl
theorem Di {b o} {cs} {e} {k} (hg:h.m.get b=.cells cs e k) (hk:readable k) {x} (ho:cs[o]?=some x):Ae (some none) (.ptr b o) h=.ok x h:=by rw [Nu,hg,Dc hk,S9,AlL,AhR,ho];rfl
structure Rl (s:Nat) (lo:Nat) (et:TypeId) (h:H) (v:AV) (len:Nat) (c:List AV):Prop where
 at':∃b k st,v=.sl b 0 len len s false/\h.m.get b=.cells c et (.Gt k)/\h.m.get k=.Fb st/\lo<=b/\lo<=k/\b<h.nx/\k<h.nx/\b≠k
 Rv:c.length=len * s
theorem Rl.sl {s lo len:Nat} {et:TypeId} {c:List AV} (ht:Rl s lo et h v len c):Oq s h v len c:=by
 obtain ⟨b,k,st,q1,q2,q3,q4,q5,q6,q7⟩:=ht.at'
 exact ⟨.inr ⟨b,0,len,false,c,et,.Gt k,q1,Nat.le_refl _,q2,trivial,q6,by rw [ht.Rv];omega,by rw [List.drop_zero,<- ht.Rv,List.take_length]⟩⟩
theorem Rl.ext {s lo len:Nat} {et:TypeId} {c:List AV} (ht:Rl s lo et h v len c) (e:Ext n h h1):Rl s lo et h1 v len c:=by
 obtain ⟨b,k,st,q1,q2,q3,q4,q5,q6,q7,q8⟩:=ht.at'
 exact ⟨⟨b,k,st,q1,by rw [e.Cf b q6];exact q2,by rw [e.Cf k q7];exact q3,q4,q5,Nat.lt_of_lt_of_le q6 e.lo,Nat.lt_of_lt_of_le q7 e.lo,q8⟩,ht.Rv⟩
theorem Fi (n:Nat):Gj n=decide (n<1000000000000):=by
 show Nat.blt n 1000000000000=_
 cases hb:Nat.blt n 1000000000000 with
 |true=>
  have:n<1000000000000:=by simpa using hb
  simp [this]
 |false=>
  have:¬ n<1000000000000:=λhh=>by rw [show Nat.blt n 1000000000000=true by simpa using hh] at hb;cases hb
  simp [this]
theorem AsY {s bytes len} {et} {c} (hs:Oq s h y len c) (hlen:0<len) (hb:len * (bytes+1)<1000000000000) (h1:Bm c=true):
 Ds et s bytes .Bv y h=.ok (.sl (h.nx+1) 0 len len s false) ((h.new (.Fb 0)).new (.cells c et (.Gt h.nx))):=by
 show (match Hd h s y with
  |some (n,new)=>C6 _ ..
  |none=>.bad _)=_;rw [hs.src];have h2:Nat.beq len 0=false:=by cases len with|zero=>omega|succ k=>rfl
 simp [h2,h1,Fi,decide_eq_true hb];rfl
theorem Aa2 {s bytes len lo} {et} {c} (hs:Oq s h y len c) (hlen:0<len) (hb:len * (bytes+1)<1000000000000) (h1:Bm c=true) (hl:h.nx+2<=Bq) (Kf:lo<=h.nx):
 Cb 2 h (λv h'=>Rl s lo et h' v len c) (Ds et s bytes .Bv y h):=by
 refine ⟨_,_,AsY hs hlen hb h1,((Ext.refl 0 h).new _ om).new _ (by show h.nx+1<Bq;omega),⟨⟨_,_,0,rfl,?_,?_,by omega,Kf,by simp,by simp_all;omega,by omega⟩,hs.Rv⟩⟩;. exact A6 _ (by simp_all;omega)
 . rw [H3 _ _ (by show h.nx+1<Bq;omega) om (by simp)];simp
theorem AgO {s bytes len B1 b k st} {et} {c c'} (q2:h.m.get b=.cells c et (.Gt k)) (q3:h.m.get k=.Fb st) (Ox:c.length=len * s) (hs:Oq s h y B1 c') (hlen:0<B1) (hb:(len+B1) * (bytes+1)<1000000000000) (h1:Bm c'=true):
 Ds et s bytes (.sl b 0 len len s false) y h=.ok (.sl h.nx 0 (len+B1) (len+B1) s false) (((h.put b (.cells c et (.Cf k st))).put k (.Fb st)).new (.cells (c++c') et (.Gt k))):=by
 show (match Hd h s y with
  |some (n,new)=>C6 _ ..
  |none=>.bad _)=_;rw [hs.src];have h3:Nat.ble (Nat.add len B1) len=false:=by cases hx:Nat.ble .. with
  |false=>rfl
  |true=>simp_all;omega
 simp [h1,Fi,decide_eq_true hb,Nat.beq_refl];show C6 _ _ (Nat.ble ..)=_;rw [h3];unfold Ny;rw [q2];simp only [q3,Sn,E5,Ox,Nat.zero_add,Nat.le_refl,if_true,Gh,Nat.beq_refl,Dl];rfl
theorem AsZ {s bytes len B1 lo:Nat} {et:TypeId} {c c':List AV} (ht:Rl s lo et h x len c) (hs:Oq s h y B1 c') (hlen:0<B1) (hb:(len+B1) * (bytes+1)<1000000000000) (h1:Bm c'=true) (hl:h.nx+1<=Bq) (Kf:h0.nx<=lo) (he:Ext n h0 h):
 Cb (n+1) h0 (λv h'=>Rl s lo et h' v (len+B1) (c++c')) (Ds et s bytes x y h):=by
 obtain ⟨b,k,st,rfl,q2,q3,q4,q5,q6,q7,q8⟩:=ht.at';have Du:Ds et s bytes (.sl b 0 len len s false) y h=.ok (.sl h.nx 0 (len+B1) (len+B1) s false) (((h.put b (.cells c et (.Cf k st))).put k (.Fb st)).new (.cells (c++c') et (.Gt k))):=by
  show (match Hd h s y with
   |some (n,new)=>C6 (.bad 121) (C6 (.bad 121) (C6 (.bad 121) (Lg ⟨et,s,bytes⟩ b 0 len len s false n new h) (Nat.beq s s)) (Bm new)) (Gj ((len+n) * (bytes+1)))
   |none=>.bad 123)=_;rw [hs.src];have h3:Nat.ble (Nat.add len B1) len=false:=by cases hx:Nat.ble (Nat.add len B1) len with
   |false=>rfl
   |true=>simp_all;omega
  simp only [h1,Fi,decide_eq_true hb,Nat.beq_refl];show (C6 _ _ (Nat.ble (Nat.add len B1) len):OR)=_;rw [h3];show Ny ⟨et,s,bytes⟩ b 0 len (Nat.add ..) _ h=_;unfold Ny;rw [q2];simp only [q3,Sn,E5,ht.Rv,Nat.zero_add,Nat.le_refl,if_true,Gh,Nat.beq_refl,Dl];rfl
 have e1:Ext n _ ((h.put b (.cells c et (.Cf k st))).put k (.Fb st)):=(he.put b _ om om).put k _ om om;refine ⟨_,_,Du,e1.new _ (by simp_all;omega),⟨⟨_,k,st,rfl,?_,?_,?_,q5,by simp,by simp_all;omega,by omega⟩,by rw [List.length_append,ht.Rv,hs.Rv,Nat.add_mul]⟩⟩;. exact A6 _ (by show h.nx<Bq;omega)
 . rw [H3 _ k (by show h.nx<Bq;omega) om (by simp_all;omega)];simp
 grind
theorem Ic {y} {Q R} {r} {k} (he:Ext n h0 h) (hr:Cb m h R r) (hk:∀v h1,Ext (n+m) h0 h1->Ext m h h1->R v h1->Cb y h0 Q (k v h1)):Cb y h0 Q (Aa r k):=by obtain ⟨v,h1,rfl,e,hq⟩:=hr;exact hk v _ (he.trans e) e hq
theorem Ag {y:Nat} {Q:AV->H->Prop} {r:OR} {k:AV->H->OR} (hr:r=.ok v h) (hk:Cb y h0 Q (k v h)):Cb y h0 Q (Aa r k):=by rw [hr];exact hk
theorem B0 {Q} (he:Ext n h0 h) (hn:n<=m) (hq:Q v h):Cb m h0 Q (.ok v h):=⟨v,h,rfl,he.mono hn,hq⟩
theorem Cb.mono {Q R} {r} (hr:Cb n h0 Q r) (hn:n<=m) (hq:∀v h,Q v h->R v h):Cb m h0 R r:=by obtain ⟨v,h1,rfl,e,q⟩:=hr;exact ⟨v,_,rfl,e.mono hn,hq v _ q⟩
theorem Aw (n b:Nat) (l:List Nat) (hb:b<n):wrote n (b::l)=b::wrote n l:=by
 show (Bool.rec (motive:=λ_=>List Nat) (wrote n l) (b::wrote n l) (Nat.blt b n):List Nat)=_
 rw [show Nat.blt b n=true by simpa using hb]
@[simp] theorem A05:Q6 []=true:=rfl
@[simp] theorem A04 (a:Nat) (l:List Nat):Q6 (a::l)=false:=rfl
@[simp] theorem A2T (l:List EF):Lh l=Iu l l:=rfl
@[simp] theorem A0c (all:List EF):Iu all []=true:=rfl
@[simp] theorem AvJ (all l:List EF) (b p:Nat) (r:RS) (h:H) (n:Nat):Iu all (⟨b,p,[],r,h,n⟩::l)=Iu all l:=rfl
@[simp] theorem A2S (all l:List EF) (b p x:Nat) (w:List Nat) (r:RS) (h:H) (n:Nat):Iu all (⟨b,p,x::w,r,h,n⟩::l)=(E2 ⟨b,p,x::w,r,h,n⟩ all&&Iu all l):=by
 show (Bool.rec (motive:=λ_=>Bool) false (Iu all l) (E2 ⟨b,p,x::w,r,h,n⟩ all):Bool)=_
 cases E2 ⟨b,p,x::w,r,h,n⟩ all<;>rfl
@[simp] theorem Hw (e:EF):E2 e []=true:=rfl
@[simp] theorem Fz (e a:EF) (l:List EF):E2 e (a::l)=(Jo e a&&E2 e l):=by
 show (Bool.rec (motive:=λ_=>Bool) false (E2 e l) (Jo e a):Bool)=_
 cases Jo e a<;>rfl
theorem Ahm:∀w:List Nat,Ahl w []=true
 |[]=>rfl
 |x::w=>by
  show (Bool.rec (motive:=λ_=>Bool) (Ahl w []) false (Ve x []):Bool)=true
  exact Ahm w
theorem Yn (n:Nat):∀w:List Nat,outside w n n=true
 |[]=>rfl
 |x::w=>by
  show (Bool.rec (motive:=λ_=>Bool) (outside w n n) false (Bool.rec (motive:=λ_=>Bool) false (Nat.blt x n) (Nat.ble n x)):Bool)=true
  have ih:=Yn n w
  cases h1:Nat.ble n x with
  |false=>exact ih
  |true=>
   have h2:n<=x:=Nat.le_of_ble_eq_true h1
   have h3:Nat.blt x n=false:=by
    cases hx:Nat.blt x n with
    |false=>rfl
    |true=>
     have:x<n:=by simpa using hx
     omega
   rw [h3]
   exact ih
@[simp] theorem Ci e b p h:Jo e ⟨b,p,[],.none,h,h.nx⟩=true:=by show Bool.rec (motive:=λ_=>Bool) _ ..=true;rw [Ahm,Yn];cases M4 _<;>cases Nat.beq _ b<;>rfl
theorem Ax (eb ep:Nat) (ew:List Nat) (er:RS) (eh:H) (en:Nat) (ab ap:Nat) (aw:List Nat) (ar:RS) (ah:H) (an:Nat) (ho:M4 (Nat.lor (Nat.land ep ab) (Nat.land ap eb))=false):Jo ⟨eb,ep,ew,er,eh,en⟩ ⟨ab,ap,aw,ar,ah,an⟩=true:=by
 show (Bool.rec (motive:=λ_=>Bool) true _ (M4 (Nat.lor (Nat.land ep ab) (Nat.land ap eb))):Bool)=true
 rw [ho]
theorem Ar (eb ep:Nat) (ew:List Nat) (er:RS) (eh:H) (en:Nat) (ap:Nat) (aw:List Nat) (ar:RS) (ah:H) (an:Nat):Jo ⟨eb,ep,ew,er,eh,en⟩ ⟨eb,ap,aw,ar,ah,an⟩=true:=by
 show (Bool.rec (motive:=λ_=>Bool) true (Bool.rec (motive:=λ_=>Bool) _ true (Nat.beq eb eb)) (M4 (Nat.lor (Nat.land ep eb) (Nat.land ap eb))):Bool)=true
 rw [Nat.beq_refl]
 cases M4 (Nat.lor (Nat.land ep eb) (Nat.land ap eb))<;>rfl
@[simp] theorem At (lg:List Nat):En [] lg=lg:=rfl
@[simp] theorem AfT (x y:List Nat):Akm x y=x++y:=by
 induction x with
 |nil=>rfl
 |cons a x ih=>show a::Akm x y=_;rw [ih];rfl
@[simp] theorem Ap e l lg:En (e::l) lg=e.w++En l lg:=by rw [<- AfT];rfl
theorem So {lg:List Nat} {Fl:List EF} {k:H->OR} (he:Lh Fl=true):Ff lg Fl h k=k (Be (En Fl lg) h):=by
 show (Bool.rec (motive:=λ_=>OR) (.bad 183) (k (Be (En Fl lg) h)) (Lh Fl):OR)=_
 rw [he]
theorem Jj {y} {Q} {lg} {Fl} {k} (he:Lh Fl=true) (hk:Cb y h0 Q (k (Be (En Fl lg) h))):Cb y h0 Q (Ff lg Fl h k):=by rw [So he];omega
theorem Ext.Be (e:Ext n h h1) (lg:List Nat) (hlg:∀x∈lg,x∈h.lg\/h.nx<=x):Ext n h (Be lg h1):=⟨e.lo,e.hi,e.Cf,hlg⟩
theorem Y1 {b off cap sz l u:Nat} {ex:Bool} (h1:l<=u) (h2:u<=cap) (h3:l<cap):AkE b off cap sz ex l u h=.ok (.sl b (off+l * sz) (u - l) (cap - l) sz ex) h:=by
 show (Bool.rec (motive:=λ_=>OR) (.bad 74) (Bool.rec (motive:=λ_=>OR) (.bad 74) (Bool.rec (motive:=λ_=>OR) _ (.ok (.sl b (off+l * sz) (Nat.sub u l) (Nat.sub cap l) sz ex) h) (Nat.blt l cap)) (Nat.ble u cap)) (Nat.ble l u):OR)=_
 rw [show Nat.ble l u=true by simpa using h1,show Nat.ble u cap=true by simpa using h2,show Nat.blt l cap=true by simpa using h3]
 rfl
theorem Aav {t e:TypeId} {b off len cap s bytes:Nat} {ex:Bool} (hx:Hp P t=.sl ⟨e,s,bytes⟩) (l:Nat):xSl P t (.sl b off len cap s ex) (some (.int .i64 (l:Int))) none h=AkE b off cap s ex l len h:=by
 have e0:vL (ev (.tmp 0) (fr Az [(0,.sl b off len cap s ex),(1,.int .i64 (l:Int)),(2,.top)]))=.yes b off len cap s ex:=by kernel_rfl
 have e1:bnd (fr Az [(0,.sl b off len cap s ex),(1,.int .i64 (l:Int)),(2,.top)]) (some (.tmp 1)) 0=some l:=by kernel_rfl
 have e2:bnd (fr Az [(0,.sl b off len cap s ex),(1,.int .i64 (l:Int)),(2,.top)]) none len=some len:=rfl
 show G5 t (.tmp 0) (some (.tmp 1)) none none 0 P Q7 (fr Az [(0,.sl b off len cap s ex),(1,.int .i64 (l:Int)),(2,.top)]) h=_
 unfold G5
 rw [hx]
 simp only [e0,e1,e2,Nat.beq_refl]
theorem Aau {t e:TypeId} {b off len cap s bytes:Nat} {ex:Bool} (hx:Hp P t=.sl ⟨e,s,bytes⟩) (u:Nat):xSl P t (.sl b off len cap s ex) none (some (.int .i64 (u:Int))) h=AkE b off cap s ex 0 u h:=by
 have e0:vL (ev (.tmp 0) (fr Az [(0,.sl b off len cap s ex),(1,.top),(2,.int .i64 (u:Int))]))=.yes b off len cap s ex:=by kernel_rfl
 have e1:bnd (fr Az [(0,.sl b off len cap s ex),(1,.top),(2,.int .i64 (u:Int))]) none 0=some 0:=rfl
 have e2:bnd (fr Az [(0,.sl b off len cap s ex),(1,.top),(2,.int .i64 (u:Int))]) (some (.tmp 2)) len=some u:=by kernel_rfl
 show G5 t (.tmp 0) none (some (.tmp 2)) none 0 P Q7 (fr Az [(0,.sl b off len cap s ex),(1,.top),(2,.int .i64 (u:Int))]) h=_
 unfold G5
 rw [hx]
 simp only [e0,e1,e2,Nat.beq_refl]
theorem Atv {t:TypeId} (ht:tk P t=.slice) (c:Bool) (b o l k z:Nat) (e:Bool):Aj P .eql t c (.sl b o l k z e) .Bv h=.ok (.bool false) h:=by
 have h1:aeq P 20 t (.sl b o l k z e) .Bv=some false:=by
  show Dy P (aeq P 19) t _ _=_
  unfold Dy
  rw [ht]
  rfl
 show (match aeq P 20 t (.sl b o l k z e) .Bv with|some b=>OR.ok (.bool (false != b)) h|none=>.bad 38)=_
 rw [h1]
 rfl
theorem Aig {t:TypeId} (ht:tk P t=.bool) (c a b:Bool):Aj P .neq t c (.bool a) (.bool b) h=.ok (.bool (true != (a == b))) h:=by
 have h1:aeq P 20 t (.bool a) (.bool b)=some (a == b):=by
  show Dy P (aeq P 19) t _ _=_
  unfold Dy
  rw [ht]
  rfl
 show (match aeq P 20 t (.bool a) (.bool b) with|some b=>OR.ok (.bool (true != b)) h|none=>.bad 38)=_
 rw [h1]
theorem Amx {s bytes len lo b} {et e} {c} (hg:h.m.get b=.cells [] e .exact) (hs:Oq s h y len c) (hlen:0<len) (hb:len * (bytes+1)<1000000000000) (h1:Bm c=true) (hl:h.nx+2<=Bq) (Kf:lo<=h.nx):
 Cb 2 h (λv h'=>Rl s lo et h' v len c) (Ds et s bytes (.sl b 0 0 0 s true) y h):=by
 have Du:Ds et s bytes (.sl b 0 0 0 s true) y h=.ok (.sl (h.nx+1) 0 len len s false) ((h.new (.Fb 0)).new (.cells c et (.Gt h.nx))):=by
  show (match Hd h s y with
   |some (n,new)=>C6 _ ..
   |none=>.bad _)=_;rw [hs.src];have h3:Nat.ble (Nat.add 0 len) 0=false:=by cases hx:Nat.ble _ 0 with
   |false=>rfl
   |true=>simp_all
  simp [h1,Fi,Nat.zero_add,decide_eq_true hb,Nat.beq_refl];show C6 _ _ (Nat.ble _ 0)=_;rw [h3];unfold Sf;rw [AaS,hg];have h4:Nat.add 0 _=len:=Nat.zero_add _;simp [AnQ,E5,h4,Nat.zero_mul,Nat.zero_add,List.length_nil,Nat.le_refl,if_true,Dl];rfl
 refine ⟨_,_,Du,((Ext.refl 0 h).new _ om).new _ (by show h.nx+1<Bq;omega),⟨⟨_,_,0,rfl,?_,?_,by omega,Kf,by simp,by simp_all;omega,by omega⟩,hs.Rv⟩⟩;. exact A6 _ (by simp_all;omega)
 . rw [H3 _ _ (by show h.nx+1<Bq;omega) om (by simp)];simp_all
section
variable {Q:AV->H->Prop} {k:AV->H->OR} {r a b:OR}
theorem F0 (hc:Cb n h0 Q (k v h)):Cb n h0 Q (Aa (.ok v h) k):=hc
theorem Zv (hc:Cb n h0 Q (k v (Ab h))):Cb n h0 Q (Al h1 (.ok v (Ab h)) k):=by simp [*]
theorem AdF (hq:wrote h2.nx h1.lg=[]) (hc:Cb n h0 Q (k v h1)):Cb n h0 Q (Al h2 (.ok v h1) k):=by rw [Si v _ _ k hq];omega
theorem Gx (hc:Cb n h0 Q a):Cb n h0 Q (Af (.bool true) a b):=hc
theorem Gw (hc:Cb n h0 Q b):Cb n h0 Q (Af (.bool false) a b):=hc
theorem AmI {c:Bool} (ha:c=true->Cb n h0 Q a) (hb:c=false->Cb n h0 Q b):Cb n h0 Q (Af (.bool c) a b):=by
 cases c
 . exact hb rfl
 . exact ha rfl
theorem Ahz (hc:Cb n h0 Q (Aa r k)):Cb n h0 Q (Aa r k):=hc
theorem Atz (hc:Cb n h0 Q (Af v a b)):Cb n h0 Q (Af v a b):=hc
end
theorem Jh {y:Nat} {Q R:AV->H->Prop} {r:OR} {k:AV->H->OR} (hr:Cb m h0 R r) (hk:∀v h1,Ext m h0 h1->R v h1->Cb y h0 Q (k v h1)):Cb y h0 Q (Aa r k):=by
 obtain ⟨v,h1,rfl,e,hq⟩:=hr
 exact hk v h1 e hq
def Ws (c w:Bool) (v:AV):AV:=if c=w then v else .Bj []
@[simp] theorem A0I (c:Bool) (v:AV):Ws c c v=v:=if_pos rfl
@[simp] theorem A6C (v:AV):Ws false true v=.Bj []:=rfl
@[simp] theorem A6D (v:AV):Ws true false v=.Bj []:=rfl
@[simp] theorem A5k (c w:Bool) (v:AV):Ws c w (Ws c w v)=Ws c w v:=by
 unfold Ws
 by_cases hh:c=w
 . simp [hh]
 . simp [hh]
theorem C8 (c w:Bool) (v:AV) (h:H):Ad (.bool c) w (.ok v h) h=.ok (Ws c w v) h:=by cases c<;>cases w<;>rfl
theorem Cm (c e:Bool) (r:OR) (h:H):Ad (Ws c false (.bool e)) true r h=Ad (.bool (!c&&e)) true r h:=by cases c<;>cases e<;>rfl
theorem Cn (c e:Bool) (r:OR) (h:H):Ad (Ws c true (.bool e)) true r h=Ad (.bool (c&&e)) true r h:=by cases c<;>cases e<;>rfl
theorem Co (c e:Bool) (r:OR) (h:H):Ad (Ws c false (.bool e)) false r h=Ad (.bool (c||e)) false r h:=by cases c<;>cases e<;>rfl
theorem Cp (c e:Bool) (r:OR) (h:H):Ad (Ws c true (.bool e)) false r h=Ad (.bool (!c||e)) false r h:=by cases c<;>cases e<;>rfl
theorem Dt (c d:Bool) (h:H):Bo (.bool c) (.bool true) (Ws c false (.bool d)) h=.ok (.bool (c||d)) h:=by cases c<;>rfl
theorem C7 (c d:Bool) (h:H):Bo (.bool c) (Ws c true (.bool d)) (.bool false) h=.ok (.bool (c&&d)) h:=by cases c<;>rfl
theorem Hy {c w} {v} {r} {k} {Q} (hr:c=w->r=.ok v h) (hk:Cb n h0 Q (k (Ws c w v) h)):Cb n h0 Q (Aa (Ad (.bool c) w r h) k):=by
 cases c<;>cases w;. simp_all
 . exact hk
 . exact hk
 simp_all
end Go.Ev.Sx
namespace Go.Ev.Sx
open Go.Ev
variable {P:Program} {ctx:Ac} {h h0 h1 h2:H} {v x y:AV} {s len B1:Nat} {c c':List AV}
structure Ai (h h':H):Prop where
 lo:h.nx<=h'.nx
 Cf:∀b,b<h.nx->h'.m.get b=h.m.get b
 lg:∀x∈h'.lg,x∈h.lg\/h.nx<=x
theorem Ai.refl h:Ai h h:=⟨Nat.le_refl _,λ_ _=>rfl,λ_=>.inl⟩
theorem Ai.trans (e:Ai h h1) (e':Ai h1 h2):Ai h h2:=
 ⟨Nat.le_trans e.lo e'.lo,λb hb=>by rw [e'.Cf b (Nat.lt_of_lt_of_le hb e.lo),e.Cf b hb],λx hx=>by
  rcases e'.lg x hx with h3|h3;. exact e.lg x h3
  . exact .inr (Nat.le_trans e.lo h3)⟩
theorem Ai.new (e:Ai h h1) o:Ai h (h1.new o):=
 ⟨by show h.nx<=h1.nx+1;have:=e.lo;omega,λb hb=>by rw [Cq o b (by have:=e.lo;omega),e.Cf b hb],e.lg⟩
theorem Ai.put (e:Ai h h1) c o (hc:h.nx<=c):Ai h (h1.put c o):=
 ⟨e.lo,λb hb=>by rw [Aq c o b om,e.Cf b hb],λx hx=>by
  rcases List.mem_cons.1 hx with rfl|hx;. omega
  . exact e.lg x hx⟩
theorem Ai.nl (e:Ai h h1):Ai h (Ab h1):=⟨e.lo,e.Cf,λx hx=>by cases hx⟩
theorem Ai.Rc (e:Ai (Ab h) h1):Ai h h1:=⟨e.lo,e.Cf,λx hx=>by
 rcases e.lg x hx with h3|h3;. cases h3
 simp_all⟩
theorem Ai.Be (e:Ai h h1) (e2:Ai h h2):Ai h (Be h2.lg h1):=⟨e.lo,e.Cf,e2.lg⟩
theorem Ai.quiet (e:Ai (Ab h) h1):wrote h.nx h1.lg=[]:=by have hg:=e.lg;revert hg;generalize h1.lg=l;intro hg;induction l with
 |nil=>rfl
 |cons a l ih=>
  have h3:h.nx<=a:=by simp_all
  rw [Am _ _ _ h3];grind
def A5i (h:H):CK->Prop
 |.exact=>True
 |.fz _=>True
 |.Gt _=>True
 |.Cf k st=>k<h.nx/\h.m.get k=.Fb st
structure Nv (h:H) (b:Nat) (cs:List AV):Prop where
 lt:b<h.nx
 cells:∃e k,h.m.get b=.cells cs e k/\A5i h k
@[simp] theorem A0E o:rdO o (Ab h)=rdO o h:=by cases o with|cells c e k=>cases k<;>rfl|_=>rfl
@[simp] theorem A0F o l:rdO o (Be l h)=rdO o h:=by cases o with|cells c e k=>cases k<;>rfl|_=>rfl
theorem Nv.rd {b} {cs} (hc:Nv h b cs):rdO (h.m.get b) h=some cs:=by obtain ⟨e,k,h1,h2⟩:=hc.cells;rw [h1];cases k with
 |Cf k st=>show Bool.rec (motive:=λ_=>Option _) _ ..=some _;rw [h2.2];show Bool.rec _ _ (Nat.beq ..)=some _;simp
 |_=>rfl
structure Bi (h h':H):Prop where
 lo:h.nx<=h'.nx
 cont:∀b cs,Nv h b cs->Nv h' b cs
theorem Bi.refl h:Bi h h:=⟨Nat.le_refl _,λ_ _ hc=>hc⟩
theorem Bi.trans (e:Bi h h1) (e':Bi h1 h2):Bi h h2:=⟨Nat.le_trans e.lo e'.lo,λb cs hc=>e'.cont b _ (e.cont b _ hc)⟩
theorem Ai.keeps (e:Ai h h1):Bi h h1:=⟨e.lo,λb cs hc=>by obtain ⟨t,k,h1,h2⟩:=hc.cells;refine ⟨Nat.lt_of_lt_of_le hc.lt e.lo,t,k,by rw [e.Cf b hc.lt];grind,?_⟩;cases k with
 |Cf k st=>exact ⟨Nat.lt_of_lt_of_le h2.1 e.lo,by rw [e.Cf k h2.1];exact h2.2⟩
 |_=>trivial⟩
theorem Bi.nl (e:Bi h h1):Bi h (Ab h1):=⟨e.lo,λb cs hc=>e.cont b _ hc |> λq=>⟨q.lt,q.cells⟩⟩
theorem Bi.Be (e:Bi h h1) l:Bi h (Be l h1):=⟨e.lo,λb cs hc=>e.cont b _ hc |> λq=>⟨q.lt,q.cells⟩⟩
def Ah (h:H) (Q:AV->H->Prop) (r:OR):Prop:=∃v h',r=.ok v h'/\Ai h h'/\Q v h'
section
variable {Q R:AV->H->Prop} {k:AV->H->OR} {r a b:OR}
theorem Lo (e:Ai h0 h) (hq:Q v h):Ah h0 Q (.ok v h):=⟨v,h,rfl,e,hq⟩
theorem Ah.mono (hr:Ah h0 R r) (hq:∀v h,Ai h0 h->R v h->Q v h):Ah h0 Q r:=by obtain ⟨v,h1,rfl,e,q⟩:=hr;exact ⟨v,_,rfl,e,hq v _ e q⟩
theorem Ah.of (e:Ai h0 h) (hr:Ah h Q r):Ah h0 Q r:=by obtain ⟨v,h1,rfl,e1,q⟩:=hr;exact ⟨v,_,rfl,e.trans e1,q⟩
theorem X0 (hr:Ah h R r) (hk:∀v h1,Ai h h1->R v h1->Ah h0 Q (k v h1)):Ah h0 Q (Aa r k):=by obtain ⟨v,h1,rfl,e,hq⟩:=hr;simp_all
theorem Aqb (hr:Ah (Ab h) R r) (hk:∀v h1,Ai h h1->R v h1->Ah h0 Q (k v h1)):Ah h0 Q (Al h r k):=by obtain ⟨v,h1,rfl,e,hq⟩:=hr;rw [Si _ _ _ _ e.quiet];exact hk v _ e.Rc hq
theorem Ey (hr:r=.ok v h) (hk:Ah h0 Q (k v h)):Ah h0 Q (Aa r k):=by simp [*]
theorem Wb (hc:Ah h0 Q (k v h)):Ah h0 Q (Aa (.ok v h) k):=hc
theorem Acw (hc:Ah h0 Q (k v (Ab h))):Ah h0 Q (Al h1 (.ok v (Ab h)) k):=by simp [*]
theorem Ah6 (hq:wrote h2.nx h1.lg=[]) (hc:Ah h0 Q (k v h1)):Ah h0 Q (Al h2 (.ok v h1) k):=by rw [Si v _ _ k hq];omega
theorem Zx (hc:Ah h0 Q a):Ah h0 Q (Af (.bool true) a b):=hc
theorem Ae5 (hc:Ah h0 Q b):Ah h0 Q (Af (.bool false) a b):=hc
theorem At5 {c} (ha:c=true->Ah h0 Q a) (hb:c=false->Ah h0 Q b):Ah h0 Q (Af (.bool c) a b):=by
 cases c;. simp [*]
 simp_all
theorem AmM {c} (ht:c=true->Ah h0 Q (Aa r k)) (hf:c=false->Ah h0 Q (k (.Bj []) h)):Ah h0 Q (Aa (Ad (.bool c) true r h) k):=by
 cases c;. simp [*]
 simp_all
theorem AmL {c} (ht:c=true->Ah h0 Q (k (.Bj []) h)) (hf:c=false->Ah h0 Q (Aa r k)):Ah h0 Q (Aa (Ad (.bool c) false r h) k):=by
 cases c;. simp [*]
 simp_all
theorem AjF {c} (ht:c=true->Ah h0 Q (Al h1 r k)) (hf:c=false->Ah h0 Q (Al h1 (.ok (.Bj []) h) k)):Ah h0 Q (Al h1 (Ad (.bool c) true r h) k):=by
 cases c;. simp [*]
 simp_all
theorem AjE {c} (ht:c=true->Ah h0 Q (Al h1 (.ok (.Bj []) h) k)) (hf:c=false->Ah h0 Q (Al h1 r k)):Ah h0 Q (Al h1 (Ad (.bool c) false r h) k):=by
 cases c;. simp [*]
 simp_all
theorem gvR (hc:Ah h0 Q (Aa r k)):Ah h0 Q (Aa r k):=hc
end
def Sl (s:Nat) (h:H) (v:AV) (len:Nat) (c:List AV):Prop:=
 (len=0/\c=[]/\v=.Bv)\/∃b off cap ex cs,v=.sl b off len cap s ex/\len<=cap/\Nv h b cs/\off+len * s<=cs.length/\(cs.drop off).take (len * s)=c
theorem Sl.By (hs:Sl s h v len c) (e:Bi h h1):Sl s h1 v len c:=by
 rcases hs with h3|⟨b,off,cap,ex,cs,q1,q2,q3,q4⟩;. exact .inl h3
 . exact .inr ⟨b,_,_,_,_,q1,q2,e.cont b _ q3,q4⟩
theorem Sl.Gs (hs:Sl s h v len c):Fo v h1=.ok (.int .i64 len) h1:=by rcases hs with ⟨rfl,_,rfl⟩|⟨b,off,cap,ex,cs,rfl,_⟩<;>rfl
theorem Sl.Rv (hs:Sl s h v len c):c.length=len * s:=by
 rcases hs with ⟨rfl,rfl,rfl⟩|⟨b,off,cap,ex,cs,q1,q2,q3,q4,q5⟩;. simp
 grind
theorem Sl.src (hs:Sl s h v len c):Hd h s v=some (len,c):=by
 rcases hs with ⟨rfl,rfl,rfl⟩|⟨b,off,cap,ex,cs,rfl,q2,q3,q4,q5⟩;. rfl
 . show (match h.rd b with|some c=>(Nf c ..).map _|none=>none)=_;rw [AaS,q3.rd];simp [E5];grind
theorem Sl.ia (hs:Sl s h v len c) {i} (hi:i<len):∃b o cs,(∀h1,Gc s v (.int .i64 i) h1=.ok (.ptr b o) h1)/\Nv h b cs/\o+s<=cs.length/\(cs.drop o).take s=(c.drop (i * s)).take s:=by
 rcases hs with ⟨rfl,rfl,rfl⟩|⟨b,off,cap,ex,cs,rfl,q2,q3,q4,q5⟩;. omega
 . have h5:i * s+s<=len * s:=by have:=Nat.mul_le_mul_right s (show i+1<=len by omega);grind
   refine ⟨b,_,_,λh1=>Agr s b _ _ _ s _ i hi,q3,by omega,?_⟩;rw [<- q5,List.drop_take,List.take_take,List.drop_drop];grind
theorem Nv.many {b o n} {cs l} (hc:Nv h b cs) (ho:o+n<=cs.length) (hl:(cs.drop o).take n=l):∀hh,Bi h hh->Ae (some (some n)) (.ptr b o) hh=.ok (.agg l) hh:=λhh e=>by rw [Nu,(e.cont b _ hc).rd,S9,AcC,E5,if_pos ho,hl];rfl
theorem Nv.one {b o} {cs} (hc:Nv h b cs) (ho:cs[o]?=some x):∀hh,Bi h hh->Ae (some none) (.ptr b o) hh=.ok x hh:=λhh e=>by rw [Nu,(e.cont b _ hc).rd,S9,AlL,AhR,ho];rfl
structure AsU (s:Nat) (h:H) (v:AV) (i:Nat) (l:List AV) (b o:Nat):Prop where
 ia:∀h1,Gc s v (.int .i64 (i:Int)) h1=.ok (.ptr b o) h1
 all:∀hh,Bi h hh->Ae (some (some s)) (.ptr b o) hh=.ok (.agg l) hh
 part:∀j x,l[j]?=some x->∀hh,Bi h hh->Ae (some none) (.ptr b (o+j)) hh=.ok x hh
 many:∀j n,j+n<=s->∀hh,Bi h hh->Ae (some (some n)) (.ptr b (o+j)) hh=.ok (.agg ((l.drop j).take n)) hh
theorem Sl.elem (hs:Sl s h v len c) {i} (hi:i<len) {l} (hl:(c.drop (i * s)).take s=l):∃b o,AsU s h v i l b o:=by
 obtain ⟨b,o,cs,p1,p2,p3,p4⟩:=hs.ia hi;rw [hl] at p4;refine ⟨b,o,p1,p2.many p3 p4,λj x hx=>p2.one ?_,λj n hj=>p2.many om ?_⟩;. grind
 . rw [<- p4,List.drop_take,List.take_take,List.drop_drop];grind
theorem Afx {α:Type} {f:α->List AV} (hf:∀a,(f a).length=s):∀(l:List _) i x,l[i]?=some x->((l.flatMap f).drop (i * s)).take s=f x:=by intro l;induction l with
 |nil=>simp
 |cons a l ih=>intro i x hx;cases i with
  |zero=>grind
  |succ i=>rw [List.flatMap_cons,Nat.add_mul,Nat.one_mul,Nat.add_comm,<- List.drop_drop,List.drop_left' (hf a)];simp_all
theorem Aa9 {α:Type} {f:α->List AV} (hf:∀a,(f a).length=s) (l:List _):(l.flatMap f).length=l.length * s:=by induction l with
 |nil=>simp
 |cons a l ih=>grind
abbrev R0 {α:Type} (s:Nat) (f:α->List AV) (h:H) (v:AV) (l:List α):Prop:=Sl s h v l.length (l.flatMap f)
theorem R0.elem {α} {f:α->List _} (hf:∀a,(f a).length=s) {l} (hs:R0 s f h v l) {i} {x} (hx:l[i]?=some x):∃b o,AsU s h v i (f x) b o:=
 Sl.elem hs (List.getElem?_eq_some_iff.1 hx).1 (Afx hf l i x hx)
theorem Sl.lit {cs} {e} (hg:h1.m.get h.nx=.cells cs e .exact) (hn:h1.nx=h.nx+1) (hl:cs.length=len * s):Sl s h1 (.sl h.nx 0 len len s true) len cs:=
 .inr ⟨_,0,_,_,_,rfl,Nat.le_refl _,⟨by omega,e,_,hg,trivial⟩,by omega,by grind⟩
def Fm (s lo:Nat) (et:TypeId) (h:H) (v:AV) (len:Nat) (c:List AV):Prop:=
 (len=0/\c=[]/\v=.Bv)\/(len=0/\c=[]/\∃b off cs,v=.sl b off 0 0 s true/\Nv h b cs/\off<=cs.length) \/
 (∃b k st,v=.sl b 0 len len s false/\h.m.get b=.cells c et (.Gt k)/\h.m.get k=.Fb st/\lo<=b/\lo<=k/\b<h.nx/\k<h.nx/\b≠k/\c.length=len * s)
theorem Fm.sl {lo} {et} (ho:Fm s lo et h v len c):Sl s h v len c:=by
 rcases ho with h1|⟨rfl,rfl,b,off,cs,rfl,h2,h3⟩|⟨b,k,st,rfl,q2,q3,q4,q5,q6,q7,q8,q9⟩;. exact .inl h1
 . exact .inr ⟨b,_,0,_,_,rfl,Nat.le_refl _,h2,by omega,by simp⟩
 . exact .inr ⟨b,0,_,_,c,rfl,Nat.le_refl _,⟨q6,_,_,q2,trivial⟩,by omega,by grind⟩
theorem Fm.gr {lo} {et} (ho:Fm s lo et h v len c) (e:Ai h h1):Fm s lo et h1 v len c:=by
 rcases ho with h1|⟨rfl,rfl,b,off,cs,rfl,h2,h3⟩|⟨b,k,st,rfl,q2,q3,q4,q5,q6,q7,q8,q9⟩;. exact .inl h1
 . exact .inr (.inl ⟨rfl,rfl,b,_,_,rfl,e.keeps.cont b _ h2,h3⟩)
 . exact .inr (.inr ⟨b,k,_,rfl,by rw [e.Cf b q6];grind,by rw [e.Cf k q7];omega,q4,q5,Nat.lt_of_lt_of_le q6 e.lo,Nat.lt_of_lt_of_le q7 e.lo,q8,q9⟩)
theorem Fm.nil s lo et h:Fm s lo et h .Bv 0 []:=.inl ⟨rfl,rfl,rfl⟩
theorem Fm.one {lo} {et} (ho:Fm s lo et h v len c) {lo2} (hl:lo2<=lo):Fm s lo2 et h v len c:=by
 rcases ho with h1|h1|⟨b,k,st,q1,q2,q3,q4,q5,q6⟩;. exact .inl h1
 . exact .inr (.inl h1)
 . exact .inr (.inr ⟨b,k,_,q1,q2,q3,by omega,by omega,q6⟩)
theorem Fm.AbQ {bytes lo:Nat} {et:TypeId} (ho:Fm s lo et h x len c) (F6:Hd h s y=some (B1,c')) (Ox:c'.length=B1 * s) (hb:(len+B1) * (bytes+1)<1000000000000) (h1:Bm c'=true) (Kf:lo<=h.nx):
 ∃v h',Ds et s bytes x y h=.ok v h'/\Bi h h'/\(∀h0,h0.nx<=lo->Ai h0 h->Ai h0 h')/\Fm s lo et h' v (len+B1) (c++c')/\(∀b,b<lo->h'.m.get b=h.m.get b):=by
 have Ae9:∀(cs:List AV) (Nh:Nat),cs.length=Nh * s->(grow h et s cs Nh=.ok (.sl (Nat.succ h.nx) 0 Nh Nh s false) ((h.new (.Fb 0)).new (.cells cs et (.Gt h.nx))))/\Ai h ((h.new (.Fb 0)).new (.cells cs et (.Gt h.nx)))/\Fm s lo et ((h.new (.Fb 0)).new (.cells cs et (.Gt h.nx))) (.sl (Nat.succ h.nx) 0 Nh Nh s false) Nh cs:=by
  intro cs Nh hn
  refine ⟨rfl,((Ai.refl h).new _).new _,.inr (.inr ⟨h.nx+1,h.nx,0,rfl,Bf (h:=h.new (.Fb 0)) _,?_,by omega,Kf,by show h.nx+1<h.nx+1+1;omega,by show h.nx<h.nx+1+1;omega,by omega,hn⟩)⟩
  rw [Cq (h:=h.new (.Fb 0)) _ h.nx (by show h.nx≠h.nx+1;omega)]
  exact Bf _
 rcases ho with ⟨rfl,rfl,rfl⟩|⟨rfl,rfl,b,off,cs,rfl,h2,h3⟩|⟨b,k,st,rfl,q2,q3,q4,q5,q6,q7,q8,q9⟩
 . rw [Nat.zero_add] at hb ⊢
   rw [List.nil_append]
   have hr:Ds et s bytes .Bv y h=(match Hd h s y with
    |some (n,new)=>C6 (C6 (.bad 120) (C6 (.bad 120) (grow h et s new n) (Bm new)) (Gj (n * (bytes+1)))) (.ok .Bv h) (Nat.beq n 0)
    |none=>.bad 123):=rfl
   rw [hr,F6]
   by_cases h0:B1=0
   . subst h0;have Wh:c'=[]:=List.length_eq_zero_iff.1 om;subst Wh;exact ⟨_,_,rfl,Bi.refl h,λ_ _ e=>e,Fm.nil ..,λ_ _=>rfl⟩
   . obtain ⟨g1,g2,g3⟩:=Ae9 c' B1 Ox;have h2:Nat.beq B1 0=false:=by cases B1 with|zero=>omega|succ k=>rfl
     simp only [h2,h1,Fi,decide_eq_true hb];exact ⟨_,_,g1,g2.keeps,λh0 _ e=>e.trans g2,g3,λb hb=>g2.Cf b om⟩
 . rw [Nat.zero_add] at hb ⊢;rw [List.nil_append];have hr:Ds et s bytes (.sl b off 0 0 s true) y h=(match Hd h s y with
    |some (n,new)=>C6 (.bad 121) (C6 (.bad 121) (C6 (.bad 121) (Lg ⟨et,s,bytes⟩ b off 0 0 s true n new h) (Nat.beq s s)) (Bm new)) (Gj ((0+n) * (bytes+1)))
    |none=>.bad 123):=rfl;rw [hr,F6];simp only [h1,Fi,Nat.zero_add,decide_eq_true hb,Nat.beq_refl];by_cases h0:B1=0;. subst h0;have Wh:c'=[]:=List.length_eq_zero_iff.1 om;subst Wh;exact ⟨_,_,rfl,Bi.refl h,λ_ _ e=>e,.inr (.inl ⟨rfl,rfl,b,off,cs,rfl,h2,h3⟩),λ_ _=>rfl⟩
   . obtain ⟨g1,g2,g3⟩:=Ae9 c' B1 Ox;have h4:Nat.ble (Nat.add 0 B1) 0=false:=by cases hx:Nat.ble (Nat.add 0 B1) 0 with
      |false=>rfl
      |true=>have:0+B1<=0:=Nat.le_of_ble_eq_true hx;omega
     have Du:(C6 (.bad 121) (C6 (.bad 121) (C6 (.bad 121) (Lg ⟨et,s,bytes⟩ b off 0 0 s true B1 c' h) true) true) true:OR)=grow h et s c' B1:=by show (C6 _ _ (Nat.ble (Nat.add 0 B1) 0):OR)=_;rw [h4];show Sf ⟨et,s,bytes⟩ b off 0 (Nat.add 0 B1) c' h=_;unfold Sf;rw [AaS,h2.rd];have h5:Nat.add 0 B1=B1:=Nat.zero_add B1;simp only [E5,h5,Nat.zero_mul,Nat.add_zero,h3,if_true,List.take_zero,Dl,List.nil_append]
     rw [Du];exact ⟨_,_,g1,g2.keeps,λh0 _ e=>e.trans g2,g3,λb hb=>g2.Cf b om⟩
 . have hr:Ds et s bytes (.sl b 0 len len s false) y h=(match Hd h s y with
    |some (n,new)=>C6 (.bad 121) (C6 (.bad 121) (C6 (.bad 121) (Lg ⟨et,s,bytes⟩ b 0 len len s false n new h) (Nat.beq s s)) (Bm new)) (Gj ((len+n) * (bytes+1)))
    |none=>.bad 123):=rfl;rw [hr,F6];simp only [h1,Fi,decide_eq_true hb,Nat.beq_refl];by_cases h0:B1=0;. subst h0;have Wh:c'=[]:=List.length_eq_zero_iff.1 om;subst Wh;refine ⟨.sl b 0 (len+0) len s false,h,?_,Bi.refl h,λ_ _ e=>e,.inr (.inr ⟨b,k,st,rfl,by rw [List.append_nil];exact q2,q3,q4,q5,q6,q7,q8,by rw [List.append_nil];exact q9⟩),λ_ _=>rfl⟩;show (C6 _ _ (Nat.ble (Nat.add len 0) len):OR)=_;rw [show Nat.ble (Nat.add len 0) len=true from Nat.ble_eq_true_of_le (Nat.le_refl _)];rfl
   . have h4:Nat.ble (Nat.add len B1) len=false:=by cases hx:Nat.ble (Nat.add len B1) len with
      |false=>rfl
      |true=>have:len+B1<=len:=Nat.le_of_ble_eq_true hx;omega
     have Du:(C6 (.bad 121) (C6 (.bad 121) (C6 (.bad 121) (Lg ⟨et,s,bytes⟩ b 0 len len s false B1 c' h) true) true) true:OR)=.ok (.sl h.nx 0 (len+B1) (len+B1) s false) (((h.put b (.cells c et (.Cf k st))).put k (.Fb st)).new (.cells (c++c') et (.Gt k))):=by show (C6 _ _ (Nat.ble (Nat.add len B1) len):OR)=_;rw [h4];show Ny ⟨et,s,bytes⟩ b 0 len (Nat.add len B1) c' h=_;unfold Ny;rw [q2];simp only [q3,Sn,E5,q9,Nat.zero_add,Nat.le_refl,if_true,Gh,Nat.beq_refl,Dl];rfl
     rw [Du];have Lr:∀j,j<h.nx->j≠b->j≠k->(((h.put b (.cells c et (.Cf k st))).put k (.Fb st)).new (.cells (c++c') et (.Gt k))).m.get j=h.m.get j:=λj h5 h6 h7=>by rw [Cq (h:=(h.put b (.cells c et (.Cf k st))).put k (.Fb st)) _ j (by show j≠h.nx;omega),Aq _ _ _ h7,Aq _ _ _ h6]
     have A3M:(((h.put b (.cells c et (.Cf k st))).put k (.Fb st)).new (.cells (c++c') et (.Gt k))).m.get b=.cells c et (.Cf k st):=by rw [Cq (h:=(h.put b (.cells c et (.Cf k st))).put k (.Fb st)) _ b (by show b≠h.nx;omega),Aq _ _ _ q8,A2]
     have Aqz:(((h.put b (.cells c et (.Cf k st))).put k (.Fb st)).new (.cells (c++c') et (.Gt k))).m.get k=.Fb st:=by rw [Cq (h:=(h.put b (.cells c et (.Cf k st))).put k (.Fb st)) _ k (by show k≠h.nx;omega),A2]
     refine ⟨_,_,rfl,⟨by show h.nx<=h.nx+1;omega,λj cs hj=>?_⟩,λh0 hh0 e=>((e.put b _ om).put k _ om).new _,.inr (.inr ⟨h.nx,k,st,rfl,Bf (h:=(h.put b (.cells c et (.Cf k st))).put k (.Fb st)) _,Aqz,Kf,q5,by show h.nx<h.nx+1;omega,by show k<h.nx+1;omega,by omega,by rw [List.length_append,q9,Ox,Nat.add_mul]⟩),λj hj=>Lr j om om om⟩;refine ⟨by show j<h.nx+1;have:=hj.lt;omega,?_⟩;obtain ⟨e,kk,r1,r2⟩:=hj.cells;by_cases hjb:j=b
     . subst hjb
       rw [q2] at r1;cases r1;exact ⟨et,.Cf k st,A3M,by show k<h.nx+1;omega,Aqz⟩
     . have hjk:j≠k:=λhh=>by rw [hh,q3] at r1;cases r1
       refine ⟨e,kk,by rw [Lr j hj.lt hjb hjk];exact r1,?_⟩
       cases kk with
       |Cf k2 st2=>
        refine ⟨by show k2<h.nx+1;have:=r2.1;omega,?_⟩
        by_cases Z0:k2=k
        . subst Z0
          rw [Aqz,<- q3]
          exact r2.2
        . have hkb:k2≠b:=λhh=>by
           have:=r2.2;rw [hh,q2] at this;cases this
          rw [Lr k2 r2.1 hkb Z0]
          exact r2.2
       |_=>trivial
def Bbe (x:Option (List AV)) (o n:Nat) (v:AV) (h:H):OR:=match x with
 |some c=>if o+n<=c.length then .ok (.Bj [.agg ((c.drop o).take n),v]) h else .bad 197
 |none=>.bad 197
@[simp] theorem AoF (c:List AV) (o n:Nat) (v:AV):Bbe (some c) o n v h=if o+n<=c.length then .ok (.Bj [.agg ((c.drop o).take n),v]) h else .bad 197:=rfl
@[simp] theorem Bii (b o n:Nat) (v:AV):Vk [.c (some (some n)) (.ptr b o),.v v] h=Bbe (rdO (h.m.get b) h) o n v h:=by
 show (match (match (match h.rd b with|some c=>Tn (some (some n)) c o|none=>none),(some [v]:Option (List AV)) with|some v,some l=>some (v::l)|_,_=>none) with|some l=>OR.ok (single l) h|none=>.bad 197)=_
 rw [AaS]
 cases rdO (h.m.get b) h with
 |none=>rfl
 |some c=>
  show (match (match (Nf c o n).map AV.agg,(some [v]:Option (List AV)) with|some v,some l=>some (v::l)|_,_=>none) with|some l=>OR.ok (single l) h|none=>.bad 197)=_
  rw [E5]
  by_cases hh:o+n<=c.length
  . rw [if_pos hh,AoF,if_pos hh];rfl
  . rw [if_neg hh,AoF,if_neg hh];rfl
theorem Sg {bytes lo b off} {et} {cs} (h2:Nv h b cs) (h3:off<=cs.length) (F6:Hd h s y=some (B1,c')) (Ox:c'.length=B1 * s) (hb:B1 * (bytes+1)<1000000000000) (h1:Bm c'=true) (Kf:lo<=h.nx):
 ∃v h',Ds et s bytes (.sl b off 0 0 s true) y h=.ok v h'/\Ai h h'/\Fm s lo et h' v B1 c':=by
 have hr:Ds et s bytes (.sl b off 0 0 s true) y h=match Hd h s y with
  |some (n,new)=>C6 _ ..
  |none=>.bad _:=rfl;rw [hr,F6];simp [h1,Fi,Nat.zero_add,decide_eq_true hb,Nat.beq_refl];by_cases h0:B1=0;. subst h0;have Wh:c'=[]:=List.length_eq_zero_iff.1 om;subst Wh;exact ⟨_,_,rfl,Ai.refl h,.inr (.inl ⟨rfl,rfl,b,_,_,rfl,h2,h3⟩)⟩
 . have h4:Nat.ble (Nat.add 0 B1) 0=false:=by cases hx:Nat.ble _ 0 with
    |false=>rfl
    |true=>simp_all
   have Du:C6 (.bad 121) (C6 (.bad 121) (C6 (.bad 121) (Lg ⟨et,s,bytes⟩ b off 0 0 s true B1 c' h) true) true) true=grow h et s c' B1:=by show C6 _ _ (Nat.ble _ 0)=_;rw [h4];unfold Sf;rw [AaS,h2.rd];have h5:Nat.add 0 _=B1:=Nat.zero_add _;simp [E5,h5,Nat.zero_mul,Nat.add_zero,h3,if_true,List.take_zero,Dl,List.nil_append]
   rw [Du];refine ⟨_,_,rfl,((Ai.refl h).new _).new _,.inr (.inr ⟨_,_,0,rfl,Bf _,?_,by omega,Kf,by simp,by simp_all;omega,by simp,Ox⟩)⟩;rw [Cq _ _ (by simp)];simp
theorem Nn {b off cap sz l u} {ex} (h1:l<=u) (h2:u<=cap):AkE b off cap sz ex l u h=if l<cap then .ok (.sl b (off+l * sz) (u - l) (cap - l) sz ex) h else if ex=true then .ok (.sl b off 0 0 sz true) h else if l=0 then .ok (.sl b off 0 0 sz ex) h else .ok (.sl b (off+1) 0 0 0 false) h:=by
 show Bool.rec _ ..=_;rw [show Nat.ble l u=true by simp [*],show Nat.ble u _=true by simp_all];by_cases h3:l<cap;. rw [if_pos h3,show Nat.blt l _=true by simp [*]];rfl
 . rw [if_neg h3,show Nat.blt l _=false by cases hb:Nat.blt l _ with
    |false=>rfl
    |true=>simp_all;omega];cases ex with
   |true=>rfl
   |false=>
    by_cases h4:l=0;. simp_all
    . have:Nat.beq l 0=false:=by cases l with|zero=>omega|succ k=>rfl
      simp_all
theorem Ads {t e} {bytes} (hx:Hp P t=.sl ⟨e,s,bytes⟩):xSl P t .Bv none (some (.int .i64 0)) h=.ok .Bv h:=by have e0:vL (ev (.tmp 0) (fr Az [(0,.Bv),(1,.top),(2,.int .i64 0)]))=.nil:=rfl;have e1:bnd (fr Az [(0,.Bv),(1,.top),(2,.int .i64 0)]) none 0=some 0:=rfl;have e2:bnd (fr Az [(0,.Bv),(1,.top),(2,.int .i64 0)]) (some (.tmp 2)) 0=some 0:=rfl;show G5 t (.tmp 0) none (some (.tmp 2)) none 0 P Q7 (fr Az [(0,.Bv),(1,.top),(2,.int .i64 0)]) h=_;unfold G5;grind
theorem AkN {t e} {bytes} (hx:Hp P t=.sl ⟨e,s,bytes⟩):xSl P t .Bv (some (.int .i64 0)) none h=.ok .Bv h:=by have e0:vL (ev (.tmp 0) (fr Az [(0,.Bv),(1,.int .i64 0),(2,.top)]))=.nil:=rfl;have e1:bnd (fr Az [(0,.Bv),(1,.int .i64 0),(2,.top)]) (some (.tmp 1)) 0=some 0:=rfl;have e2:bnd (fr Az [(0,.Bv),(1,.int .i64 0),(2,.top)]) none 0=some 0:=rfl;show G5 t (.tmp 0) (some (.tmp 1)) none none 0 P Q7 (fr Az [(0,.Bv),(1,.int .i64 0),(2,.top)]) h=_;unfold G5;grind
theorem B8 {Q} {lg} {Fl} {k} (he:Lh Fl=true) (hk:Ah h0 Q (k (Be (En Fl lg) h))):Ah h0 Q (Ff lg Fl h k):=by rw [So he];omega
theorem Ai.reC {c} {l} (e:Ai h (Go.Ev.Be l h1)) (hc:h.nx<=c):Ai h (Go.Ev.Be (c::l) h1):=⟨e.lo,e.Cf,λx hx=>by
 rcases List.mem_cons.1 hx with rfl|hx;. omega
 . exact e.lg x hx⟩
end Go.Ev.Sx
namespace Go.Ev
variable [Ii]
variable {P:Program} {G:Nat} {σ σ':Dx} {h h':H} {w w':World} {v:AV} {ctx:Ac}
def Plain (x:AV):Prop:=∀σ σ' v,Au σ x v->Au σ' x v
theorem Plain.bool (b:Bool):Plain (.bool b):=λ_ _ v h=>by cases h;exact .bool b
theorem Plain.int (k:IntKind) (n:Int):Plain (.int k n):=λ_ _ v h=>by cases h;exact .int k n
theorem Plain.str (s:List Nat):Plain (.str s):=λ_ _ v h=>by cases h;exact .str _
theorem Plain.Iy:Plain .Iy:=λ_ _ v h=>by cases h;exact .Iy
theorem Plain.B3:Plain .B3:=λ_ _ v h=>by cases h;exact .B3
theorem Plain.I6 {t:TypeId} {x:AV} (hx:Plain x):Plain (.I6 t x):=λσ σ' v h=>by cases h with|I6 t x v' h'=>exact .I6 _ _ _ (hx σ σ' _ h')
theorem Plain.agg {l:List AV} (hl:∀x∈l,Plain x):Plain (.agg l):=λσ σ' v h=>by
 cases h with|agg cs D7 h1 h2=>exact .agg _ _ h1 λi x y hx hy=>hl x (List.mem_of_getElem? hx) σ σ' _ (h2 i x y hx hy)
theorem Plain.Bj {l:List AV} (hl:∀x∈l,Plain x):Plain (.Bj l):=λσ σ' v h=>by
 cases h with|Bj cs D7 h1 h2=>exact .Bj _ _ h1 λi x y hx hy=>hl x (List.mem_of_getElem? hx) σ σ' _ (h2 i x y hx hy)
theorem Plain.fn {f:Fn} {l1 l2:List AV} (hf:∀l,f≠.yield l) (ha:∀x∈l1,Plain x) (hc:∀x∈l2,Plain x):Plain (.fn f l1 l2):=λσ σ' v h=>by
 cases h with
 |fn f0 c1 c2 d1 d2 q h1 h2 h3 h4=>exact .fn _ _ _ _ _ hf h1 (λi x y hx hy=>ha x (List.mem_of_getElem? hx) σ σ' _ (h2 i x y hx hy)) h3 (λi x y hx hy=>hc x (List.mem_of_getElem? hx) σ σ' _ (h4 i x y hx hy))
 |yld l e h'=>exact absurd rfl (hf l)
def I7 (l:List AV):Prop:=∀x∈l,Plain x
theorem I7.rel {l:List AV} {a:List Value} (hl:I7 l) (σ σ':Dx) (h:Bk σ l a):Bk σ' l a:=⟨h.1,λi x y hx hy=>hl x (List.mem_of_getElem? hx) σ σ' _ (h.2 i x y hx hy)⟩
theorem I7.nil:I7 []:=λ_ h=>by cases h
theorem I7.cons {x:AV} {l:List AV} (hx:Plain x) (hl:I7 l):I7 (x::l):=λy h=>by
 rcases List.mem_cons.1 h with rfl|h
 . exact hx
 . exact hl y h
structure A6W (P:Program) (ctx:Ac) (g:FuncId) (args:List AV) (v:AV):Prop where
 ran:∃h1,ctx.call g args (glH [] P.globals.size)=.ok v h1/\h1.nx<=Bq/\∀x∈h1.lg,P.globals.size<=x
theorem Ah1:P8 P.globals.size []=true:=rfl
theorem Aks (hc:Bd P P.globals.size ctx) (hn:P.globals.size<=Bq) {g} {args} {v} (hb:Bg P g=true) (hv:Plain v) (hr:A6W P ctx g args v):Nx P [] ⟨g,args,v⟩:=by
 obtain ⟨h1,he,hl,hlg⟩:=hr.ran;intro w An kind hw Ow;obtain ⟨hms,hg⟩:=AkL hw hn Ah1;have Ac2:Fx (Y0 P.globals.size w) (glH [] P.globals.size) h1:=by intro x h2 h3;have R3:P.globals.size<=x:=h2;unfold Y0;grind
 obtain ⟨σ',v',w',a',fn,q1,q2,q3,q4,q5,q6⟩:=hc.call g _ _ _ v _ w _ _ he hb (Ow _) hms hg hl Ac2;obtain ⟨nw,s1,s2,s3⟩:=q3;have hnw:h1.lg=nw:=by rw [s1.lg];simp [glH]
 refine ⟨_,_,_,_,q1,λσ=>hv _ _ _ q2,⟨s2.grow,λc hc2=>s2.frame c hc2 ?_,s2.io⟩,q4,q5,q6⟩;intro x hx e hxe;have h5:=(Gm hxe).1;grind
abbrev Df:=FuncId->List AV->Option AV
structure P3 (P:Program) (T:Df):Prop where
 ok:∀g args v,T g args=some v->Nx P [] ⟨g,args,v⟩/\I7 args
theorem P3.none:P3 P (λ_ _=>none):=⟨λ_ _ _ h=>by cases h⟩
def AxJ (T:Df) (ctx:Ac):Ac:=⟨λg args h=>Option.rec (motive:=λ_=>OR) (ctx.call g args h) (λv=>.ok v h) (T g args),ctx.round⟩
def cD (P:Program) (T:Df) (d:Nat):Ac:=Nat.rec (motive:=λ_=>Ac) Q7 (λ_ ih=>AxJ T ⟨Fy P ih,Io P ih⟩) d
variable {T:Df}
theorem Am8 (hc:Dw ctx):Dw (AxJ T ctx):=by refine ⟨λg args h v h' he=>?_,hc.round⟩;have Ak:Option.rec (motive:=λ_=>OR) _ ..=.ok v _:=he;cases ho:T g _ with
 |none=>rw [ho] at Ak;exact hc.call g _ h v _ Ak
 |some u=>rw [ho] at Ak;obtain ⟨_,rfl⟩:=B4 Ak;simp
theorem Aj5 (hc:Bd P P.globals.size ctx) (ht:P3 P T):Bd P P.globals.size (AxJ T ctx):=by
 refine ⟨?_,λl args h h' v σ w An=>hc.round l _ h _ v _ w _,Am8 hc.mono,?_,hc.Au7⟩;rotate_left;. intro g args h h' v σ w An he hb Ow hm hg hl hf;have Ak:Option.rec (motive:=λ_=>OR) _ ..=.Hb v _:=he;cases ho:T g _ with
   |none=>rw [ho] at Ak;exact hc.Hb g _ h _ v _ w _ Ak hb Ow hm hg hl hf
   |some u=>simp_all
 intro g args h h' v σ w An kind he hb Ow hm hg hl hf;have Ak:Option.rec (motive:=λ_=>OR) _ ..=.ok v _:=he;cases ho:T g _ with
 |none=>rw [ho] at Ak;exact hc.call g _ h _ v _ w _ _ Ak hb Ow hm hg hl hf
 |some u=>rw [ho] at Ak;obtain ⟨rfl,rfl⟩:=B4 Ak;obtain ⟨q1,q2⟩:=ht.ok g _ u ho;obtain ⟨v',w',a',fn,r1,r2,r3,r4,r5,r6⟩:=q1 w _ _ (Akl hm hg Ah1 rfl) λσ'=>q2.rel _ _ Ow;refine ⟨_,_,_,_,_,r1,r2 _,⟨_,J6.refl hm.ai,⟨Qq.refl _,λx e h1 h2=>by simp_all,⟨hm.so.inj,λx e hx=>Nat.lt_of_lt_of_le (hm.so.rng x e hx) r3.grow,hm.so.low⟩,r3.grow,λc hc2 _=>r3.same c hc2,
   λx e h1 h2=>by grind,r3.io⟩,?_⟩,r4,r5,r6⟩;intro x e hx;exact Gr.congr (Qq.refl _) (r3.same _ (hm.so.rng x e hx)) (λ_ _ _ _ _ hh=>hh) (hm.ma x e hx)
theorem Xh (P5:P.follows .mixedOrders=true) (hp:Mv P=true) (ht:P3 P T) d:Bd P P.globals.size (cD P T d):=by induction d with
 |zero=>exact Acd P5 hp 0
 |succ d ih=>exact Aj5 (ApK ih P5 hp ⟨N9 ih.mono,Mj ih.mono⟩) ht
theorem Ate {d:Nat} {g:FuncId} {args:List AV} (h:H) (ho:T g args=some v):(cD P T (d+1)).call g args h=.ok v h:=by
 show (Option.rec (motive:=λ_=>OR) (Fy P (cD P T d) g args h) (λv=>.ok v h) (T g args):OR)=.ok v h
 rw [ho]
theorem Atd {d:Nat} {g:FuncId} {args:List AV} (h:H) (ho:T g args=none):(cD P T (d+1)).call g args h=Fy P (cD P T d) g args h:=by
 show (Option.rec (motive:=λ_=>OR) (Fy P (cD P T d) g args h) (λv=>.ok v h) (T g args):OR)=_
 rw [ho]
def Df.ext (T:Df) (g:FuncId) (S:List AV->Option AV):Df:=λg' args=>Bool.rec (motive:=λ_=>Option AV) (T g' args) (S args) (Nat.beq g' g)
theorem Ahs (g:FuncId) (S:List AV->Option AV) (args:List AV):T.ext g S g args=S args:=by unfold Df.ext;rw [Nat.beq_refl]
theorem Aew {g g':FuncId} (S:List AV->Option AV) (args:List AV) (Hr:g'≠g):T.ext g S g' args=T g' args:=by
 unfold Df.ext
 have:Nat.beq g' g=false:=by
  cases hb:Nat.beq g' g with
  |false=>rfl
  |true=>exact absurd (Nat.eq_of_beq_eq_true hb) Hr
 rw [this]
theorem P3.ext (P5:P.follows .mixedOrders=true) (hp:Mv P=true) (hn:P.globals.size<=Bq) (ht:P3 P T) {g} {S} (hb:Bg P g=true)
 (hs:∀args v,S args=some v->I7 args/\Plain v/\∃d h1,Fy P (cD P T d) g args (glH [] P.globals.size)=.ok v h1/\h1.nx<=Bq/\∀x∈h1.lg,P.globals.size<=x):P3 P (T.ext g S):=by
 refine ⟨λg' args v hv=>?_⟩;by_cases he:g'=g;. subst he;rw [Ahs] at hv;obtain ⟨h1,h2,d,h3,h4,h5,h6⟩:=hs _ v hv;have hc:=ApK (Xh P5 hp ht d) P5 hp ⟨N9 (Xh P5 hp ht d).mono,Mj (Xh P5 hp ht d).mono⟩;exact ⟨Aks hc hn hb h2 ⟨⟨_,h4,h5,h6⟩⟩,h1⟩
 . rw [Aew _ _ he] at hv;exact ht.ok _ _ v hv
end Go.Ev
namespace Go.Ev
open Sx
theorem C9 {h}:(∀o,(h.new o).nx=h.nx+1)/\(∀b o,(h.put b o).nx=h.nx)/\(Ab h).nx=h.nx/\∀lg,(Be lg h).nx=h.nx:=⟨λ_=>rfl,λ_ _=>rfl,rfl,λ_=>rfl⟩
theorem Bt:(∀p [Decidable p],(decide p=true)=p)/\(∀p [Decidable p],(decide p=false)=¬ p)/\(∀b,((!b)=true)=(b=false))/\(∀b,((!b)=false)=(b=true))/\(∀b,¬ b=true=(b=false))/\∀b,¬ b=false=(b=true):=by simp
theorem lc:(∀vs l off,Ng l vs off=if off+vs.length<=l.length then some (l.take off++vs++l.drop (off+vs.length)) else none)/\∀l off n,Nf l off n=if off+n<=l.length then some ((l.drop off).take n) else none:=⟨Kh,E5⟩
theorem lw:(∀vs l off,Ng l vs off=if off+vs.length<=l.length then some (l.take off++vs++l.drop (off+vs.length)) else none)/\(∀l off n,Nf l off n=if off+n<=l.length then some ((l.drop off).take n) else none)/\∀n,-9223372036854775808<=n->n<=9223372036854775807->E1 .i64 n=n:=⟨Kh,E5,Cr⟩
theorem Ce {p:Prop} (q:p:=by first|omega|(simp only [C9];omega)):p:=q
theorem M0 {h h':H} (q:Sx.Bi h h':=by first|((first|exact Sx.Bi.refl _|assumption|(repeat' (first|assumption|exact Sx.Bi.refl _|exact Sx.Ai.refl _|with_reducible apply Sx.Bi.nl|with_reducible apply Sx.Bi.Be|with_reducible apply Sx.Ai.nl|with_reducible apply Sx.Ai.Be|(with_reducible refine Sx.Ai.reC ?_ ?_)|(with_reducible refine Sx.Bi.trans ?_ (Sx.Ai.keeps (by assumption)))|(with_reducible apply Sx.Ai.keeps)|with_reducible apply Sx.Ai.new|(with_reducible refine Sx.Ai.put ?_ _ _ ?_)|(with_reducible refine Sx.Ai.trans ?_ (by assumption))|omega|(simp only [C9];omega))));done)|fail):Sx.Bi h h':=q
theorem Ex {h h':H} (q:Sx.Ai h h':=by first|((repeat' (first|assumption|exact Sx.Ai.refl _|with_reducible apply Sx.Ai.nl|with_reducible apply Sx.Ai.Be|(with_reducible refine Sx.Ai.reC ?_ ?_)|with_reducible apply Sx.Ai.new|(with_reducible refine Sx.Ai.put ?_ _ _ ?_)|(with_reducible refine Sx.Ai.trans ?_ (by assumption))|omega|(simp only [C9];omega)));done)|fail):Sx.Ai h h':=q
theorem dA {p:Prop} (q:p:=by first|omega|(simp only [C9];omega)|((first|exact Sx.Bi.refl _|assumption|(repeat' (first|assumption|exact Sx.Bi.refl _|exact Sx.Ai.refl _|with_reducible apply Sx.Bi.nl|with_reducible apply Sx.Bi.Be|with_reducible apply Sx.Ai.nl|with_reducible apply Sx.Ai.Be|(with_reducible refine Sx.Ai.reC ?_ ?_)|(with_reducible refine Sx.Bi.trans ?_ (Sx.Ai.keeps (by assumption)))|(with_reducible apply Sx.Ai.keeps)|with_reducible apply Sx.Ai.new|(with_reducible refine Sx.Ai.put ?_ _ _ ?_)|(with_reducible refine Sx.Ai.trans ?_ (by assumption))|omega|(simp only [C9];omega))));done)|fail):p:=q
theorem G9 {p:Prop} (q:p:=by first|(simp;done)|(simp;omega)|(intro y hy;simp at hy;(first|exact .inl hy|exact .inr om|(rcases hy with hy|hy;exact .inr om;exact .inl hy)|(rcases hy with hy|hy|hy;exact .inr om;exact .inr om;exact .inl hy)))|fail):p:=q
theorem Afw {p:Prop} (q:p:=by first|(simp;done)|(simp;omega)|(intro y hy;simp at hy;(first|exact .inl hy|exact .inr om|(rcases hy with hy|hy;exact .inr om;exact .inl hy)|(rcases hy with hy|hy|hy;exact .inr om;exact .inr om;exact .inl hy)))|(simp only [decide_eq_true_eq,decide_eq_false_iff_not] at *;simp [*];done)|(simp_all;done)|(simp_all;omega)|fail):p:=q
section
variable {Q R:AV->H->Prop} {r r':OR} {k:AV->H->OR} {h h0 h1 h2:H} {v x y:AV} {a b:OR} {c w:Bool} {l:List RX} {n:Nat}
theorem A7 (hc:Ah h0 Q (k v h)):Ah h0 Q (Aa (.ok v h) k):=hc
theorem A8 (hc:Ah h0 Q (k v (Ab h))):Ah h0 Q (Al h1 (.ok v (Ab h)) k):=Acw hc
theorem A9 (hc:Ah h0 Q a):Ah h0 Q (Af (.bool true) a b):=hc
theorem Ba (hc:Ah h0 Q b):Ah h0 Q (Af (.bool false) a b):=hc
theorem Cu (hc:Ah h0 Q (.ok v h)):Ah h0 Q (.ok v h):=hc
theorem Cv (hq:wrote h2.nx h1.lg=[]) (hc:Ah h0 Q (k v h1)):Ah h0 Q (Al h2 (.ok v h1) k):=Ah6 hq hc
theorem Cw (ha:c=true->Ah h0 Q a) (hb:c=false->Ah h0 Q b):Ah h0 Q (Af (.bool c) a b):=At5 ha hb
theorem Cx (hc:Ah h0 Q (Af (.bool c) a b)):Ah h0 Q (Af (.bool c) a b):=hc
theorem Cy (e:r=r') (hc:Ah h0 Q (Aa r' k)):Ah h0 Q (Aa r k):=e ▸ hc
theorem Cz (e:r=r') (hc:Ah h0 Q (Al h r' k)):Ah h0 Q (Al h r k):=e ▸ hc
theorem C0 (e:x=y) (hc:Ah h0 Q (Af y a b)):Ah h0 Q (Af x a b):=e ▸ hc
theorem C1 (e:Vk l h=r) (hc:Ah h0 Q r):Ah h0 Q (Vk l h):=e ▸ hc
theorem Fj (hr:Ah h R r) (hk:∀v h1,Ai h h1->h.nx<=h1.nx->(∀b,b<h.nx->h1.m.get b=h.m.get b)->R v h1->Ah h0 Q (k v h1)):Ah h0 Q (Aa r k):=X0 hr λv h1 e q=>hk v h1 e e.lo e.Cf q
theorem zc2 (hr:Ah (Ab h) R r) (hk:∀v h1,Ai h h1->h.nx<=h1.nx->(∀b,b<h.nx->h1.m.get b=h.m.get b)->R v h1->Ah h0 Q (k v h1)):Ah h0 Q (Al h r k):=Aqb hr λv h1 e=>hk v _ e e.lo e.Cf
theorem C2 (ht:c=true->Ah h0 Q (Aa r k)) (hf:c=false->Ah h0 Q (k (.Bj []) h)):Ah h0 Q (Aa (Ad (.bool c) true r h) k):=AmM ht hf
theorem C3 (ht:c=true->Ah h0 Q (k (.Bj []) h)) (hf:c=false->Ah h0 Q (Aa r k)):Ah h0 Q (Aa (Ad (.bool c) false r h) k):=AmL ht hf
theorem C4 (ht:c=true->Ah h0 Q (Al h1 r k)) (hf:c=false->Ah h0 Q (Al h1 (.ok (.Bj []) h) k)):Ah h0 Q (Al h1 (Ad (.bool c) true r h) k):=AjF ht hf
theorem C5 (ht:c=true->Ah h0 Q (Al h1 (.ok (.Bj []) h) k)) (hf:c=false->Ah h0 Q (Al h1 r k)):Ah h0 Q (Al h1 (Ad (.bool c) false r h) k):=AjE ht hf
theorem Kl (e:Ad x w r h=r') (hc:Ah h0 Q (Aa r' k)):Ah h0 Q (Aa (Ad x w r h) k):=e ▸ hc
theorem Km (e:Ad x w r h=r') (hc:Ah h0 Q (Al h1 r' k)):Ah h0 Q (Al h1 (Ad x w r h) k):=e ▸ hc
theorem zw:(∀r h,Ad (.bool true) true r h=r)/\(∀r h,Ad (.bool true) false r h=.ok (.Bj []) h)/\(∀r h,Ad (.bool false) false r h=r)/\∀r h,Ad (.bool false) true r h=.ok (.Bj []) h:=⟨λ_ _=>rfl,λ_ _=>rfl,λ_ _=>rfl,λ_ _=>rfl⟩
theorem zr (e:Ai h0 h) (hq:Q v h):Ah h0 Q (.ok v h):=Lo e hq
theorem Ee (hc:Sx.Comes (k v h) Q):Sx.Comes (Aa (.ok v h) k) Q:=hc
theorem Ef (hc:Sx.Comes (k v (Ab h)) Q):Sx.Comes (Al h0 (.ok v (Ab h)) k) Q:=O5 hc
theorem Eg (hc:Sx.Comes a Q):Sx.Comes (Af (.bool true) a b) Q:=hc
theorem Eh (hc:Sx.Comes b Q):Sx.Comes (Af (.bool false) a b) Q:=hc
theorem Ks (hc:Sx.Comes (.ok v h) Q):Sx.Comes (.ok v h) Q:=hc
theorem Kt (hq:wrote h0.nx h1.lg=[]) (hc:Sx.Comes (k v h1) Q):Sx.Comes (Al h0 (.ok v h1) k) Q:=Aca hq hc
theorem Ku (ha:c=true->Sx.Comes a Q) (hb:c=false->Sx.Comes b Q):Sx.Comes (Af (.bool c) a b) Q:=Aj2 ha hb
theorem Kv (e:r=r') (hc:Sx.Comes (Aa r' k) Q):Sx.Comes (Aa r k) Q:=e ▸ hc
theorem Kw (e:r=r') (hc:Sx.Comes (Al h r' k) Q):Sx.Comes (Al h r k) Q:=e ▸ hc
theorem Kx (e:x=y) (hc:Sx.Comes (Af y a b) Q):Sx.Comes (Af x a b) Q:=e ▸ hc
theorem K0 (e:Vk l h=r) (hc:Sx.Comes r Q):Sx.Comes (Vk l h) Q:=e ▸ hc
theorem K7 (ht:c=true->Sx.Comes (Aa r k) Q) (hf:c=false->Sx.Comes (k (.Bj []) h) Q):Sx.Comes (Aa (Ad (.bool c) true r h) k) Q:=Afs ht hf
theorem K8 (ht:c=true->Sx.Comes (k (.Bj []) h) Q) (hf:c=false->Sx.Comes (Aa r k) Q):Sx.Comes (Aa (Ad (.bool c) false r h) k) Q:=Afr ht hf
theorem K9 (ht:c=true->Sx.Comes (Al h0 r k) Q) (hf:c=false->Sx.Comes (Al h0 (.ok (.Bj []) h) k) Q):Sx.Comes (Al h0 (Ad (.bool c) true r h) k) Q:=AdC ht hf
theorem Ld (ht:c=true->Sx.Comes (Al h0 (.ok (.Bj []) h) k) Q) (hf:c=false->Sx.Comes (Al h0 r k) Q):Sx.Comes (Al h0 (Ad (.bool c) false r h) k) Q:=AdB ht hf
theorem J4 (hc:Cb n h0 Q (k v h)):Cb n h0 Q (Aa (.ok v h) k):=hc
theorem J1 (hc:Cb n h0 Q (k v (Ab h))):Cb n h0 Q (Al h1 (.ok v (Ab h)) k):=Zv hc
theorem J5 (hc:Cb n h0 Q a):Cb n h0 Q (Af (.bool true) a b):=hc
theorem Ko (hc:Cb n h0 Q b):Cb n h0 Q (Af (.bool false) a b):=hc
theorem Y7 (hq:wrote h2.nx h1.lg=[]) (hc:Cb n h0 Q (k v h1)):Cb n h0 Q (Al h2 (.ok v h1) k):=AdF hq hc
theorem Wx (e:r=r') (hc:Cb n h0 Q (Aa r' k)):Cb n h0 Q (Aa r k):=e ▸ hc
theorem Vz (e:r=r') (hc:Cb n h0 Q (Al h r' k)):Cb n h0 Q (Al h r k):=e ▸ hc
theorem Wy (e:x=y) (hc:Cb n h0 Q (Af y a b)):Cb n h0 Q (Af x a b):=e ▸ hc
end
end Go.Ev
namespace Go.Ev
open Sx
structure El (p:Prop):Prop where
 g:p
theorem wk {G G':Prop} (g:G') (e:El G'->G:=by
 intro O0
 (first
  |(with_reducible (first|apply A7|apply A8|apply A9|apply Ba))
  |(with_reducible (first|apply Kl|apply Km);(conv=>lhs;simp only [zw, *]))
  |(with_reducible (first|apply Cy|apply Cz|apply C0|apply C1);(conv=>lhs;simp (disch:=first|exact dA|fail) [lw, *]);with_reducible (first|apply A7|apply A8|apply A9|apply Ba|apply Cu|(refine Cv (by simp) ?_)|fail))
  |(with_reducible (first|apply C2|apply C3|apply C4|apply C5|apply Cw);(first|(focus (intro hc;(try simp only [Bt] at hc);exfalso;omega))|(rotate_left;(focus (intro hc;(try simp only [Bt] at hc);exfalso;omega)))|fail);intro hc;(try simp only [Bt] at hc))
  |fail)
 repeat' (first
  |(with_reducible (first|apply A7|apply A8|apply A9|apply Ba))
  |(with_reducible (first|apply Kl|apply Km);(conv=>lhs;simp only [zw, *]))
  |(with_reducible (first|apply Cy|apply Cz|apply C0|apply C1);(conv=>lhs;simp (disch:=first|exact dA|fail) [lw, *]);with_reducible (first|apply A7|apply A8|apply A9|apply Ba|apply Cu|(refine Cv (by simp) ?_)|fail))
  |(with_reducible (first|apply C2|apply C3|apply C4|apply C5|apply Cw);(first|(focus (intro hc;(try simp only [Bt] at hc);exfalso;omega))|(rotate_left;(focus (intro hc;(try simp only [Bt] at hc);exfalso;omega)))|fail);intro hc;(try simp only [Bt] at hc))
  |fail)
 exact O0.1):G:=e ⟨g⟩
theorem wd {G G':Prop} (g:G') (e:El G'->G:=by
 intro O0
 (first
  |(with_reducible (first|apply A7|apply A8|apply A9|apply Ba))
  |(with_reducible (first|apply Kl|apply Km);(conv=>lhs;simp only [zw, *]))
  |(with_reducible (first|apply Cy|apply Cz|apply C0|apply C1);(conv=>lhs;simp (disch:=first|exact dA|fail) [lw, *]);with_reducible (first|apply A7|apply A8|apply A9|apply Ba|apply Cu|(refine Cv (by simp) ?_)|fail))
  |(with_reducible (first|apply C2|apply C3|apply C4|apply C5|apply Cw);(first|(focus (intro hc;(try simp only [Bt] at hc);exfalso;omega))|(rotate_left;(focus (intro hc;(try simp only [Bt] at hc);exfalso;omega)))|fail);intro hc;(try simp only [Bt] at hc))
  |(refine Sx.B8 ?_ ?_;(focus (simp (disch:=first|decide|omega|(simp only [C9];omega)) [Sx.Aw,Sx.Am,Sx.Ar,Sx.Ax, *];done));(try simp (disch:=first|exact Ce|fail) only [Sx.Aw,Sx.Am,Sx.Bx,Sx.Ap,Sx.At,List.nil_append,List.cons_append,Sx.B9,Sx.Dp,Sx.Dn,C9,Sx.Ca, *]))
  |fail)
 repeat' (first
  |(with_reducible (first|apply A7|apply A8|apply A9|apply Ba))
  |(with_reducible (first|apply Kl|apply Km);(conv=>lhs;simp only [zw, *]))
  |(with_reducible (first|apply Cy|apply Cz|apply C0|apply C1);(conv=>lhs;simp (disch:=first|exact dA|fail) [lw, *]);with_reducible (first|apply A7|apply A8|apply A9|apply Ba|apply Cu|(refine Cv (by simp) ?_)|fail))
  |(with_reducible (first|apply C2|apply C3|apply C4|apply C5|apply Cw);(first|(focus (intro hc;(try simp only [Bt] at hc);exfalso;omega))|(rotate_left;(focus (intro hc;(try simp only [Bt] at hc);exfalso;omega)))|fail);intro hc;(try simp only [Bt] at hc))
  |(refine Sx.B8 ?_ ?_;(focus (simp (disch:=first|decide|omega|(simp only [C9];omega)) [Sx.Aw,Sx.Am,Sx.Ar,Sx.Ax, *];done));(try simp (disch:=first|exact Ce|fail) only [Sx.Aw,Sx.Am,Sx.Bx,Sx.Ap,Sx.At,List.nil_append,List.cons_append,Sx.B9,Sx.Dp,Sx.Dn,C9,Sx.Ca, *]))
  |fail)
 exact O0.1):G:=e ⟨g⟩
theorem yk {G G':Prop} (g:G') (e:El G'->G:=by
 intro O0
 (first
  |(with_reducible (first|apply Ee|apply Ef|apply Eg|apply Eh))
  |(with_reducible (first|apply Kv|apply Kw|apply Kx|apply K0);(conv=>lhs;simp (disch:=first|exact Ce|fail) [lc, *]);with_reducible (first|apply Ee|apply Ef|apply Eg|apply Eh|apply Ks|(refine Kt (by simp) ?_)|fail))
  |(with_reducible (first|apply K7|apply K8|apply K9|apply Ld|apply Ku);(first|(focus (intro hc;(try simp only [Bt] at hc);exfalso;omega))|(rotate_left;(focus (intro hc;(try simp only [Bt] at hc);exfalso;omega)))|fail);intro hc;(try simp only [Bt] at hc))
  |fail)
 repeat' (first
  |(with_reducible (first|apply Ee|apply Ef|apply Eg|apply Eh))
  |(with_reducible (first|apply Kv|apply Kw|apply Kx|apply K0);(conv=>lhs;simp (disch:=first|exact Ce|fail) [lc, *]);with_reducible (first|apply Ee|apply Ef|apply Eg|apply Eh|apply Ks|(refine Kt (by simp) ?_)|fail))
  |(with_reducible (first|apply K7|apply K8|apply K9|apply Ld|apply Ku);(first|(focus (intro hc;(try simp only [Bt] at hc);exfalso;omega))|(rotate_left;(focus (intro hc;(try simp only [Bt] at hc);exfalso;omega)))|fail);intro hc;(try simp only [Bt] at hc))
  |fail)
 exact O0.1):G:=e ⟨g⟩
theorem xk {G G':Prop} (g:G') (e:El G'->G:=by
 intro O0
 (first
  |(with_reducible (first|apply J4|apply J1|apply J5|apply Ko))
  |(with_reducible (first|apply Wx|apply Vz|apply Wy);(conv=>lhs;simp (disch:=first|exact Ce|fail) [lc, *]);with_reducible (first|apply J4|apply J1|apply J5|apply Ko|(refine Y7 (by simp) ?_)|fail))
  |fail)
 repeat' (first
  |(with_reducible (first|apply J4|apply J1|apply J5|apply Ko))
  |(with_reducible (first|apply Wx|apply Vz|apply Wy);(conv=>lhs;simp (disch:=first|exact Ce|fail) [lc, *]);with_reducible (first|apply J4|apply J1|apply J5|apply Ko|(refine Y7 (by simp) ?_)|fail))
  |fail)
 exact O0.1):G:=e ⟨g⟩
theorem zqq {G A B p q:Prop} (ha:p->A) (hb:q->B) (e:El (p->A)->El (q->B)->G:=by
 intro hx hy
 (first
  |(with_reducible (first|apply C2|apply C3|apply C4|apply C5|apply Cw);(focus (intro hc;(try simp only [Bt] at hc);exact hx.1 hc));intro hc;(try simp only [Bt] at hc);exact hy.1 hc)
  |fail)):G:=e ⟨ha⟩ ⟨hb⟩
theorem Pd {G:Prop} {h:H} {R X:AV->H->Prop} {r:OR} {n:Nat} (hr:Ah h R r) (hk:∀v h1,Ai h h1->n<=h1.nx->(∀b,b<n->h1.m.get b=h.m.get b)->R v h1->X v h1) (en:h.nx=n:=by first|(conv=>lhs;simp only [C9])|rfl|fail) (e:El (Ah h R r)->El (∀v h1,Ai h h1->h.nx<=h1.nx->(∀b,b<h.nx->h1.m.get b=h.m.get b)->R v h1->X v h1)->G:=by
 intro hx hy
 (first|exact Fj hx.1 hy.1|exact zc2 hx.1 hy.1|fail)):G:=by
 subst en
 exact e ⟨hr⟩ ⟨hk⟩
theorem aa {p q:Prop} (a:p) (b:q):p/\q:=⟨a,b⟩
theorem zi {h0:H} {Q:AV->H->Prop} {c:Bool} {a b:OR} (hc:Ah h0 Q (Af (.bool c) a b)):Ah h0 Q (Af (.bool c) a b):=hc
theorem yi {Q:AV->H->Prop} {c:Bool} {a b:OR} (hc:Sx.Comes (Af (.bool c) a b) Q):Sx.Comes (Af (.bool c) a b) Q:=hc
theorem ws {G G':Prop} (g:G') (e:El G'->G:=by
 intro O0
 (first
  |(with_reducible (first|apply A7|apply A8|apply A9|apply Ba))
  |(with_reducible (first|apply Kl|apply Km);(conv=>lhs;simp only [zw, *]))
  |(with_reducible (first|apply Cy|apply Cz|apply C0|apply C1);(conv=>lhs;simp (disch:=first|exact dA|fail) [lw, *]);with_reducible (first|apply A7|apply A8|apply A9|apply Ba|apply Cu|(refine Cv (by simp) ?_)|apply zi|fail))
  |(refine Sx.B8 ?_ ?_;(focus (simp (disch:=first|decide|omega|(simp only [C9];omega)) [Sx.Aw,Sx.Am,Sx.Ar,Sx.Ax, *];done));(try simp (disch:=first|exact Ce|fail) only [Sx.Aw,Sx.Am,Sx.Bx,Sx.Ap,Sx.At,List.nil_append,List.cons_append,Sx.B9,Sx.Dp,Sx.Dn,C9,Sx.Ca, *]))
  |fail)
 exact O0.1):G:=e ⟨g⟩
theorem wt {G G':Prop} (g:G') (e:El G'->G:=by
 intro O0
 (first
  |(with_reducible (first|apply A7|apply A8|apply A9|apply Ba))
  |(with_reducible (first|apply Cy|apply Cz|apply C0|apply C1);(conv=>lhs;simp (disch:=first|exact dA|fail) [lw, *]);with_reducible (first|apply A7|apply A8|apply A9|apply Ba|apply Cu|(refine Cv (by simp) ?_)|apply zi|fail))
  |fail)
 exact O0.1):G:=e ⟨g⟩
theorem ys {G G' F:Prop} (f:F) (g:G') (e:F->El G'->G:=by
 intro hff O0
 (first
  |(with_reducible (first|apply Ee|apply Ef|apply Eg|apply Eh))
  |(with_reducible (first|apply Kv|apply Kw|apply Kx|apply K0);(conv=>lhs;simp (disch:=first|exact Ce|fail) [lc, *]);with_reducible (first|apply Ee|apply Ef|apply Eg|apply Eh|apply Ks|(refine Kt (by simp) ?_)|apply yi|fail))
  |fail)
 exact O0.1):G:=e f ⟨g⟩
theorem yq {G A B p q:Prop} (ha:p->A) (hb:q->B) (e:El (p->A)->El (q->B)->G:=by
 intro hx hy
 (first
  |(with_reducible (first|apply K7|apply K8|apply K9|apply Ld|apply Ku);exact hx.1;exact hy.1)
  |fail)):G:=e ⟨ha⟩ ⟨hb⟩
theorem xs {G G' F:Prop} (f:F) (g:G') (e:F->El G'->G:=by
 intro hff O0
 repeat' (first
  |(with_reducible (first|apply J4|apply J1|apply J5|apply Ko))
  |(with_reducible (first|apply Wx|apply Vz|apply Wy);(conv=>lhs;simp (disch:=first|exact Ce|fail) [lc,hff]);with_reducible (first|apply J4|apply J1|apply J5|apply Ko|(refine Y7 (by simp) ?_)|fail))
  |fail)
 exact O0.1):G:=e f ⟨g⟩
end Go.Ev
namespace Go.Ev.Sx
variable {h h1 h2:H} {tk:Nat} {vl:AV} {Q:AV->H->Prop} {r:OR} {k:AV->H->OR} {m m':Int} {s len:Nat} {v:AV} {c:List AV}
abbrev tkC (vl:AV) (m:Int):AO:=.cells [vl,.int .i64 m] 42 .exact
structure H8 (h:H) (tk:Nat) (vl:AV):Prop where
 lt:tk<h.nx
 cell:∃m,0<=m/\h.m.get tk=tkC vl m
def TG (tk:Nat) (vl:AV) (h h1:H):Prop:=∃m,0<=m/\Ai (h.put tk (tkC vl m)) h1
def D6 (tk:Nat) (vl:AV) (h:H) (Q:AV->H->Prop) (r:OR):Prop:=∃m,0<=m/\Ah (h.put tk (tkC vl m)) Q r
def H0:H:=⟨KM.new,0,[]⟩
theorem Ed h:Ai H0 h:=⟨Nat.zero_le _,λb hb=>absurd hb (Nat.not_lt_zero b),λx _=>.inr (Nat.zero_le _)⟩
theorem Qk (hr:Ah H0 (λv h1=>TG tk vl h h1/\Q v h1) r):D6 tk vl h Q r:=by obtain ⟨v,h1,rfl,_,⟨m,hm,hg⟩,hq⟩:=hr;exact ⟨m,hm,v,_,rfl,hg,hq⟩
theorem AeX (hr:D6 tk vl h Q r):∃v h1,r=.ok v h1/\TG tk vl h h1/\Q v h1:=by obtain ⟨m,hm,v,h1,rfl,hg,hq⟩:=hr;exact ⟨v,_,rfl,⟨m,hm,hg⟩,hq⟩
theorem Au5 tk a b (h1:Ai (h.put tk a) h2):Ai (h.put tk b) (h2.put tk b):=by
 refine ⟨h1.lo,λx hx=>?_,λx hx=>?_⟩
 . by_cases e:x=tk;. simp [*]
   . rw [Aq _ b x e,Aq _ b x e,h1.Cf x hx,Aq _ a x e]
 . rcases List.mem_cons.1 hx with rfl|hx;. simp
   . rcases h1.lg x hx with h3|h3;. simp_all
     simp_all
theorem TG.refl (ht:H8 h tk vl):TG tk vl h h:=by
 obtain ⟨m,hm,hc⟩:=ht.cell;refine ⟨m,hm,Nat.le_refl _,λb hb=>?_,λx hx=>.inl (List.mem_cons_of_mem _ hx)⟩;by_cases e:b=tk;. simp [*]
 simp [*]
theorem TG.put (e:TG tk vl h h1) m (hm:0<=m):TG tk vl h (h1.put tk (tkC vl m)):=by obtain ⟨m',_,hg⟩:=e;exact ⟨m,hm,Au5 _ _ _ hg⟩
theorem TG.gr (e:TG tk vl h h1) (g:Ai h1 h2):TG tk vl h h2:=by obtain ⟨m,hm,hg⟩:=e;exact ⟨m,hm,hg.trans g⟩
theorem TG.trans (e:TG tk vl h h1) (e':TG tk vl h1 h2):TG tk vl h h2:=by obtain ⟨m,hm,hg⟩:=e';exact (e.put m hm).gr hg
theorem TG.nl (e:TG tk vl h h1):TG tk vl h (Ab h1):=e.gr (Ai.refl _).nl
theorem TG.new (e:TG tk vl h h1) o:TG tk vl h (h1.new o):=e.gr ((Ai.refl _).new o)
theorem TG.lo (e:TG tk vl h h1):h.nx<=h1.nx:=by obtain ⟨m,hm,hg⟩:=e;exact hg.lo
theorem TG.Cf (e:TG tk vl h h1) b (hb:b<h.nx) (hn:b≠tk):h1.m.get b=h.m.get b:=by obtain ⟨m,hm,hg⟩:=e;rw [hg.Cf b hb,Aq _ _ _ hn]
theorem TG.at (e:TG tk vl h h1) (ht:tk<h.nx):H8 h1 tk vl:=by obtain ⟨m,hm,hg⟩:=e;exact ⟨Nat.lt_of_lt_of_le ht hg.lo,m,hm,by rw [hg.Cf _ ht,A2]⟩
def Av (tk:Nat) (v:AV):Prop:=∀b off len cap z ex,v=.sl b off len cap z ex->0<len->b≠tk
theorem Sl.tg (hs:Sl s h v len c) (ht:H8 h tk vl) (ha:Av tk v) (e:TG tk vl h h1):Sl s h1 v len c:=by
 rcases hs with h3|⟨b,off,cap,ex,cs,rfl,q2,q3,q4,q5⟩;. exact .inl h3
 . by_cases hb:b=tk
   . subst hb;have h0:len=0:=by
      rcases Nat.eq_zero_or_pos _ with h0|h0;. omega
      . exact absurd rfl (ha b _ _ _ s _ rfl h0)
     subst h0;obtain ⟨m,hm,hg⟩:=ht.cell;obtain ⟨m',hm',hg'⟩:=(e.at ht.lt).cell;obtain ⟨t,kk,p1,p2⟩:=q3.cells;refine .inr ⟨b,_,_,_,_,rfl,q2,⟨(e.at ht.lt).lt,_,_,hg',trivial⟩,by grind,?_⟩;grind
   . refine .inr ⟨b,_,_,_,_,rfl,q2,?_,q4,q5⟩;obtain ⟨t,kk,p1,p2⟩:=q3.cells;refine ⟨Nat.lt_of_lt_of_le q3.lt e.lo,t,_,by rw [e.Cf b q3.lt hb];omega,?_⟩;cases kk with
     |Cf c st=>
      by_cases hc:c=tk;. obtain ⟨m,hm,hg⟩:=ht.cell;have:=p2.2;grind
      . exact ⟨Nat.lt_of_lt_of_le p2.1 e.lo,by rw [e.Cf c p2.1 hc];exact p2.2⟩
     |_=>trivial
@[simp] theorem A51 {P} t c a b (hb:b≠0):Aj P .rem t c (.int .i64 a) (.int .i64 b) h=.ok (.int .i64 (Int.tmod a b)) h:=by
 have e:ieq b 0=false:=by rw [X7];grind
 show (Bool.rec (.bad 30) (Bool.rec (motive:=λ_=>OR) _ ..) (kEq .i64 .i64):OR)=_;rw [e];rfl
theorem M5 {h0} {R} (hr:D6 tk vl h R r) (hk:∀v h1,TG tk vl h h1->h.nx<=h1.nx->(∀b,b<h.nx->b≠tk->h1.m.get b=h.m.get b)->R v h1->Ah h0 Q (k v h1)):Ah h0 Q (Aa r k):=by obtain ⟨v,h1,rfl,e,hq⟩:=AeX hr;exact hk v _ e e.lo e.Cf hq
theorem D4 (n x:Nat):∀l:List Nat,x∈wrote n l->x∈l/\x<n
 |[],hx=>by cases hx
 |b::l,hx=>by
  have hx':x∈(Bool.rec (motive:=λ_=>List Nat) (wrote n l) (b::wrote n l) (Nat.blt b n):List Nat):=hx
  cases hb:Nat.blt b n with
  |false=>
   rw [hb] at hx'
   have:=D4 n x l hx'
   exact ⟨List.mem_cons_of_mem _ this.1,this.2⟩
  |true=>
   rw [hb] at hx'
   rcases List.mem_cons.1 hx' with rfl|hm
   . exact ⟨List.mem_cons_self ..,Ec hb⟩
   . have:=D4 n x l hm
     exact ⟨List.mem_cons_of_mem _ this.1,this.2⟩
theorem TG.wrote (e:TG tk vl (Ab h) h1):∀x∈wrote h.nx h1.lg,x=tk:=by
 intro x hx;obtain ⟨h3,h4⟩:=D4 _ _ _ hx;obtain ⟨m,hm,hg⟩:=e;rcases hg.lg x h3 with h5|h5;. simp_all
 simp_all;omega
theorem Ab8 b:∀w,(∀x∈w,x=tk)->b≠tk->Ve b w=false
 |[],_,_=>rfl
 |x::w,h1,h2=>by
  have hb:Nat.beq x b=false:=by cases q:Nat.beq x b with
   |false=>rfl
   |true=>simp_all
  show Bool.rec (motive:=λ_=>Bool) _ ..=false;rw [hb];exact Ab8 b w (λy hy=>h1 y (List.mem_cons_of_mem _ hy)) h2
theorem Zq:∀w,Ahl w []=true
 |[]=>rfl
 |x::w=>Zq w
theorem Wo lo hi (ht:tk<lo):∀w,(∀x∈w,x=tk)->outside w lo hi=true
 |[],_=>rfl
 |x::w,h1=>by
  have hb:Nat.ble lo x=false:=by cases q:Nat.ble _ x with
   |false=>rfl
   |true=>simp_all;omega
  show Bool.rec (motive:=λ_=>Bool) _ ..=true;rw [hb];exact Wo _ _ ht w λy hy=>h1 y (List.mem_cons_of_mem _ hy)
theorem Dk {e} {ab ap an} {ar} {ah} (he:∀x∈e.w,x=tk) (ho:tk<ah.nx) (hr:ar=.none\/∃b,ar=.blk b/\b≠tk/\B5 (ah.m.get b)=none):Jo e ⟨ab,ap,[],ar,ah,an⟩=true:=by
 unfold Jo;have h1:Ahl e.w _=true:=Zq _;have h2:outside _ _ an=true:=Wo _ _ ho _ he;have h3:clear ar e.w ah=true:=by
  rcases hr with rfl|⟨b,rfl,hb,hc⟩;. rfl
  . show Bool.rec (motive:=λ_=>Bool) _ ..=true;rw [Ab8 b _ he hb,hc];rfl
 rw [h1,h2,h3];cases M4 _<;>cases Nat.beq ..<;>rfl
theorem V9 all:∀l,(∀e∈l,Q6 e.w=true\/E2 e all=true)->Iu all l=true
 |[],_=>rfl
 |e::l,h1=>by
  have ih:=V9 _ l λx hx=>h1 x (List.mem_cons_of_mem _ hx);show Bool.rec (Bool.rec _ (Iu _ l) _) (Iu _ l) _=true;rcases h1 e List.mem_cons_self .. with h3|h3;. simp [*]
  . cases Q6 _;simp_all;omega
theorem V4 e:∀l,(∀a∈l,Jo e a=true)->E2 e l=true
 |[],_=>rfl
 |a::l,h1=>by rw [Fz,h1 a List.mem_cons_self ..,V4 e l λx hx=>h1 x (List.mem_cons_of_mem _ hx)];rfl
theorem Pu {h0 hF} {Fl} {lg} {k} tk lo (he:∀e∈Fl,e.w=[]\/(∀x∈e.w,x=tk\/lo<=x)/\∀a∈Fl,Jo e a=true) (hk:∀L,(∀z∈L,z∈lg\/z=tk\/lo<=z)->Ah h0 Q (k (Be L hF))):Ah h0 Q (Ff lg Fl hF k):=by
 have Ga:=V9 _ _ λe h1=>by
  rcases he e h1 with h3|h3;. simp_all
  . exact .inr (V4 e _ h3.2)
 rw [So Ga];refine hk _ ?_;have Cs:∀e∈Fl,∀x∈e.w,x=tk\/lo<=x:=λe h1 x hx=>by grind
 clear he Ga hk;induction Fl with
 |nil=>simp_all
 |cons e es ih=>intro z hz;rw [Ap] at hz;grind
theorem TG.Aiq (e:TG tk vl h h1) c o (hc:h.nx<=c):TG tk vl h (h1.put c o):=by obtain ⟨m,hm,hg⟩:=e;exact ⟨m,hm,hg.put c o hc⟩
theorem TG.reL {hA} {L} (e1:TG tk vl h hA) (e2:TG tk vl h h1) (hL:∀z∈L,z∈hA.lg\/z=tk\/h.nx<=z):TG tk vl h (Be L h1):=by
 obtain ⟨m,hm,hg⟩:=e2;obtain ⟨m1,hm1,hg1⟩:=e1;refine ⟨m,hm,hg.lo,hg.Cf,λz hz=>?_⟩;rcases hL z hz with h3|rfl|h3;. exact hg1.lg z h3
 . simp
 simp_all
theorem Sl.hiS {P} {t e} {bytes u} (hx:Hp P t=.sl ⟨e,s,bytes⟩) (hs:Sl s h v len c) (hu:u<=len):∃v',(∀hh,xSl P t v none (some (.int .i64 u)) hh=.ok v' hh)/\Sl s h v' u (c.take (u * s)):=by
 rcases hs with ⟨rfl,rfl,rfl⟩|⟨b,off,cap,ex,cs,rfl,q2,q3,q4,q5⟩
 . have:u=0:=by omega
   subst this;exact ⟨_,λhh=>Ads hx,.inl ⟨rfl,by simp,rfl⟩⟩
 . have h5:=Nat.mul_le_mul_right s hu;have Wh:(cs.drop off).take (u * s)=c.take (u * s):=by grind
   by_cases h0:0<cap;. refine ⟨_,λhh=>by rw [Aau hx,Nn (Nat.zero_le _) om,if_pos h0],(.inr ⟨b,_,cap,ex,_,by simp,by omega,q3,by omega,Wh⟩)⟩
   . have hu0:u=0:=by omega
     subst hu0;have hq:∀hh,xSl P t (.sl b off len cap s ex) _ (some (.int _ (0:Nat))) hh=.ok (.sl b off 0 0 s ex) hh:=λhh=>by rw [Aau hx,Nn (Nat.zero_le _) om,if_neg h0];simp
     exact ⟨_,hq,.inr ⟨b,_,0,_,_,rfl,Nat.le_refl _,q3,by omega,Wh⟩⟩
theorem L5 (q:TG tk vl h h1:=by first|((repeat' (first|assumption|(exact Sx.TG.refl (by assumption))|with_reducible apply Sx.TG.nl|with_reducible apply Sx.TG.new|(with_reducible refine Sx.TG.Aiq ?_ _ _ ?_)|(refine Sx.TG.trans ?_ (by assumption))|(refine Sx.TG.gr ?_ (by assumption))|(refine Sx.TG.reL ?_ ?_ (by assumption))|omega|(simp only [C9];omega)));done)|fail):TG tk vl h h1:=q
end Go.Ev.Sx
namespace Go.Ev
open Go
variable {P:Program} {ctx:Ac} {gl:List GE}
theorem Ahj [Ii] {R4} (hc:Bd P P.globals.size ctx) (Ga:P8 P.globals.size gl=true) (AqK:∀o∈R4.l,Nx P gl o):Bd P P.globals.size (ApJ gl R4 ctx):=by
 refine ⟨?_,λl args h h' v σ w An=>hc.round l _ h _ v _ w _,Aer hc.mono,?_,hc.Au7⟩;rotate_left;. intro g args h h' v σ w An he hb Ow hm hg hl hf;have Ak:Option.rec (motive:=λ_=>OR) _ ..=.Hb v _:=he;cases ho:Hl _ g _ with
   |none=>rw [ho] at Ak;exact hc.Hb g _ h _ v _ w _ Ak hb Ow hm hg hl hf
   |some u=>rw [ho] at Ak;rcases X8 Ak with ⟨_,hq⟩|⟨_,hq⟩<;>cases hq
 intro g args h h' v σ w An kind he hb Ow hm hg hl hf;have Ak:Option.rec (motive:=λ_=>OR) _ ..=.ok v _:=he;cases ho:Hl _ g _ with
 |none=>rw [ho] at Ak;exact hc.call g _ h _ v _ w _ _ Ak hb Ow hm hg hl hf
 |some u=>rw [ho] at Ak;obtain ⟨Vr,rfl,rfl⟩:=AfZ Ak;obtain ⟨o,q1,rfl,q4,rfl⟩:=AcW ho;obtain ⟨v',w',a',fn,r1,r2,r3,r4,r5,r6⟩:=AqK o q1 w _ _ (Akl hm hg Ga Vr) λσ'=>Yb (AfH 8) _ _ _ _ _ q4 Ow;refine ⟨_,_,_,_,_,r1,r2 _,⟨_,J6.refl hm.ai,⟨Qq.refl _,λx e h1 h2=>by grind,⟨hm.so.inj,λx e hx=>Nat.lt_of_lt_of_le (hm.so.rng x e hx) r3.grow,hm.so.low⟩,r3.grow,λc hc2 _=>r3.same c hc2,
   λx e h1 h2=>by grind,r3.io⟩,?_⟩,r4,r5,r6⟩;intro x e hx;exact Gr.congr (Qq.refl _) (r3.same _ (hm.so.rng x e hx)) (λ_ _ _ _ _ hh=>hh) (hm.ma x e hx)
theorem AgZ (P5:P.follows .mixedOrders=true) (hp:Mv P=true) (hc:∀i,@Bd i P P.globals.size ctx) {g} (hb:Bg P g=true) {args} {An} {h} {σ} {w} {Q}
 (hr:Sx.Ah h Q (Fy P ctx g args h)) (hlg:h.lg=[]) (hσ:∀b,h.nx<=b->σ b=none) (Ow:Bk σ args An.toList) (hms:∀i,h.nx<=@Bq i->@Ms i P.globals.size σ h w) (hg:Vm P.globals.size σ):
 Calls P g An w λe w'=>∃v v' σ',e=.returned v'/\(∃h',Q v h')/\Au σ' v v'/\Kept w w':=by
 obtain ⟨v,h',he,hgr,hq⟩:=hr;let i:Ii:=⟨h'.nx⟩;have hl:h'.nx<=Bq:=Nat.le_refl _;have hs:=ApK (hc i) P5 hp ⟨N9 (hc i).mono,Mj (hc i).mono⟩;have Ac2:Fx _ h h':=λb h1 _=>hσ b h1;obtain ⟨σ',v',w',a',fn,q1,q2,q3,q4,q5,q6⟩:=hs.call g _ h _ v _ w _ _ he hb Ow (hms i (Nat.le_trans hgr.lo hl)) hg hl Ac2;obtain ⟨nw,s1,s2,s3⟩:=q3;have hnw:h'.lg=nw:=by rw [s1.lg,hlg,List.append_nil]
 have hk:Kept w w':=by
  refine ⟨s2.grow,λc hc2=>s2.frame c hc2 ?_,s2.io⟩;intro x hx e hxe;rcases hgr.lg x (by simp_all) with h9|h9;. simp_all
  grind
 intro cs;obtain ⟨k',Vt⟩:=q6 _ (.inl rfl);exact ⟨_,_,_,⟨v,_,_,rfl,⟨_,hq⟩,q2,hk⟩,Vt,rfl,rfl,q4,rfl,_,q1,q5⟩
def Abp:Value->AV
 |.bool b=>.bool b
 |.int k n=>.int k n
 |.string s=>.str (bytesOf s)
 |_=>.top
theorem AqY σ v:Au σ (Abp v) v:=by cases v<;>first|exact .bool _|exact .int ..|exact .str _|exact .top _
theorem Anq σ (l:List _) (i:Nat) x y (hx:(l.map Abp)[i]?=some x) (hy:l[i]?=some y):Au σ x y:=by rw [List.getElem?_map,hy] at hx;cases hx;exact AqY _ y
variable {P:Program} {gl:List GE} {w:World} {B:List Nat} {a:Addr}
theorem ArP {p} {fits} {d} {e} {count off n} (h:rowAt p fits d e count off n=true):off<=count * p.cellsOf e:=by cases d with
 |zero=>simp [rowAt] at h
 |succ d=>
  by_cases hs:p.cellsOf e=0;. simp [rowAt,hs] at h
  . unfold rowAt at h;have h1:=Nat.div_add_mod off (p.cellsOf e);have h2:=Nat.mod_lt off (Nat.pos_of_ne_zero hs);have h3:off / p.cellsOf e<count\/off / p.cellsOf e<=count/\off % p.cellsOf e=0:=by grind
    rcases h3 with h3|⟨h3,h4⟩;. have:=Nat.mul_le_mul_left (p.cellsOf e) (show off / p.cellsOf e+1<=count by omega);grind
    . have:=Nat.mul_le_mul_left (p.cellsOf e) h3;grind
theorem AeF {p}:∀d {e} {count off} {u} {n},liesAt p d e count off u n=true->off<=count * p.cellsOf e
 |0,_,_,_,_,_,h=>by simp [liesAt] at h
 |d+1,e,count,off,u,n,h=>by
  rcases Bool.or_eq_true_iff.1 h with h|h;. exact ArP h
  . split at h;. exact AeF d h
    grind
def Ams (w:World) (a:Addr):Prop:=a.spot=none/\∃(arr:Array Value) (t:TypeId) (lo hi:Nat),w.heap[a.block]?=some (.cells arr t (lo,hi))/\a.off<=arr.size
theorem AmU {r} {base n} {e} (h:World.has P w r base a e n):Ams w a:=by
 obtain ⟨_,hs,row,cells,hsh,hl⟩:=h;unfold World.shape? at hsh;split at hsh;. rename_i c elem fr hg;cases hsh;exact ⟨hs,c,_,_,_,hg,Nat.le_trans (AeF _ hl) (Nat.div_mul_le_self ..)⟩
 grind
theorem Yl {r:Reach} {base len cap:Nat} {t:TypeId} (h:Cell.okWide P w r base t (.slice (some a) len cap)):Ams w a:=by unfold Cell.okWide at h;split at h<;>first|grind|skip;all_goals
  unfold Cell.ok at h;split at h<;>first|simp_all|skip
  all_goals first|omega|(rename_i h0;cases h0;exact AmU h.2.2)
theorem AgM (ha:a.spot=none) n:a.add n=⟨a.block,a.off+n,none⟩:=by
 unfold Addr.add;split;. cases a;grind
 rfl
theorem Ahc {arr:Array Value} {t} {fr} {k s} {cs} (ha:a.spot=none) (hg:w.heap[a.block]?=some (.cells arr t fr)) (h:w.cells? 0 (a.add k) s=some cs):
 cs=(arr.toList.drop (a.off+k)).take s/\(0<s->a.off+k+s<=arr.size):=by
 obtain ⟨_,hl,hc⟩:=World.cells?_some h;have O9:∀i,i<s->arr[a.off+k+i]?=cs[i]?:=by intro i hi;rw [<- hc i hi,AgM ha,AgM rfl];unfold World.cell?;grind
 refine ⟨?_,λhs=>?_⟩;. apply List.ext_getElem?;grind
 . have h1:=O9 (s - 1) om;grind
theorem AeW {α:Type} {f:α->List AV} {s} (cs:List _) off D:∀len,(∀i,i<len->(cs.drop (off+i * s)).take s=f (D i))->(cs.drop off).take (len * s)=((List.range len).map D).flatMap f
 |0,_=>by simp
 |len+1,h=>by rw [List.range_succ,List.map_append,List.flatMap_append,<- AeW _ _ D _ λi hi=>h i om,Nat.add_mul,Nat.one_mul,List.take_add,List.drop_drop,h _ om];simp
def AhS (w:World) (b:Nat):List AV:=match w.heap[b]? with|some (.cells arr _ _)=>arr.toList.map Abp|_=>[]
def Anp (w:World) (b:Nat):TypeId:=match w.heap[b]? with|some (.cells _ t _)=>t|_=>0
def AqX (w:World) (b:Nat):Nat:=match w.heap[b]? with|some (.cells arr _ _)=>arr.size|_=>0
def He (w:World) (m:KM):List Nat->KM
 |[]=>m
 |b::B=>((He w m B).set b (.cells (AhS w b) (Anp w b) (.fz (w.heap.size+b)))).set (w.heap.size+b) (.Fb 0)
theorem Ua {m}:∀B,(∀b∈B,b<w.heap.size)->∀j,j<w.heap.size->(He w m B).get j=if j∈B then .cells (AhS w j) (Anp w j) (.fz (w.heap.size+j)) else m.get j
 |[],_,j,_=>rfl
 |b::B,hB,j,hj=>by unfold He;rw [KM.N5,if_neg om,KM.N5,Ua B (λx hx=>hB x (by grind)) j hj];grind
theorem AiB {m}:∀B,(∀b∈B,b<w.heap.size)->∀j,(He w m B).get (w.heap.size+j)=if j∈B then .Fb 0 else m.get (w.heap.size+j)
 |[],_,j=>rfl
 |b::B,hB,j=>by have hb:=hB b (by simp);unfold He;rw [KM.N5,KM.N5,AiB B (λx hx=>hB x (by grind)) j];grind
def Pn (G:Nat) (w:World) (B:List Nat):Dx:=λj=>if j∈B then some ⟨j,AqX w j,some (w.heap.size+j)⟩ else Y0 G w j
def Adk (gl:List GE) (w:World) (B:List Nat):H:=⟨He w (Rw gl) B,w.heap.size+w.heap.size,[]⟩
def Qn (gl:List GE) (w:World) (B:List Nat):Prop:=∀b∈B,(∃(arr:Array Value) (t:TypeId) (lo hi:Nat),w.heap[b]?=some (.cells arr t (lo,hi)))/\∀e∈gl,e.g≠b
theorem Qn.lt (hB:Qn gl w B):∀b∈B,b<w.heap.size:=λb hb=>by obtain ⟨⟨arr,t,lo,hi,h1⟩,_⟩:=hB b hb;grind
theorem Rh {G b} {e} (hh:Pn G w B b=some e):b∈B/\e=⟨b,AqX w b,some (w.heap.size+b)⟩\/b ∉ B/\Y0 G w b=some e:=by unfold Pn at hh;grind
theorem AiC {G b} {e} (hh:Pn G w B b=some e):e.c=b:=by
 rcases Rh hh with ⟨_,rfl⟩|⟨_,h1⟩;. rfl
 . exact (Gm h1).2.1
theorem At1 (Ga:P8 P.globals.size gl=true) {j} (hj:P.globals.size<=j):(Rw gl).get j=.none:=by
 let i:Ii:=⟨j+1+P.globals.size⟩;rcases @Xx i _ (by show P.globals.size<=j+1+P.globals.size;omega) _ Ga j (by show j<j+1+P.globals.size;omega) with ⟨e,h1,h2,_⟩|⟨_,h1⟩;. have:=(Mf Ga e h1).1;omega
 omega
theorem AuS [Ii] (hw:WOk P gl w) (Ga:P8 P.globals.size gl=true) (hB:Qn gl w B) (hl:w.heap.size+w.heap.size<=Bq):Ms P.globals.size (Pn P.globals.size w B) (Adk gl w B) w:=by
 have Fc:=hw.size;have B6:=hB.lt;have hn:P.globals.size<=Bq:=by omega
 have lo:=λj hj=>Ua (m:=Rw gl) B B6 j hj;have hi:=λj=>AiB (m:=Rw gl) B B6 j;have far:∀j,(Rw gl).get (w.heap.size+j)=.none:=λj=>At1 Ga om;have low:=(AkL hw hn Ga).1.ma;have AvL:=Xx hn gl Ga;have Asy:∀j,j<Bq->(j∈B/\j<w.heap.size/\(He w (Rw gl) B).get j=.cells (AhS w j) (Anp w j) (.fz (w.heap.size+j)))\/(∃e∈gl,e.g=j/\(He w (Rw gl) B).get j=.cells e.l e.t .exact)\/((He w (Rw gl) B).get j=.none)\/((He w (Rw gl) B).get j=.Fb 0):=by
  intro j hj;by_cases h1:j<w.heap.size
  . rw [lo j h1];by_cases h2:j∈B;. rw [if_pos h2];exact .inl ⟨h2,h1,rfl⟩
    . rw [if_neg h2];rcases AvL j hj with ⟨e,q1,q2,q3⟩|⟨_,q⟩;. exact .inr (.inl ⟨e,q1,q2,q3⟩)
      . exact .inr (.inr (.inl q))
  . obtain ⟨k,rfl⟩:∃k,j=w.heap.size+k:=⟨j - w.heap.size,by omega⟩;rw [hi k];by_cases h2:k∈B;. rw [if_pos h2];exact .inr (.inr (.inr rfl))
    . rw [if_neg h2];exact .inr (.inr (.inl (far k)))
 refine ⟨⟨hl,?_,?_,?_,?_,?_⟩,⟨?_,?_,?_⟩,?_⟩;. intro j h1 h2;have W2:w.heap.size+w.heap.size<=j:=h1;obtain ⟨k,rfl⟩:∃k,j=w.heap.size+k:=⟨j - w.heap.size,by omega⟩;show (He w (Rw gl) B).get (w.heap.size+k)=.none;rw [hi k,if_neg (λhk=>by have:=B6 k hk;omega)];exact far k
 . intro j k h1 h2;have R3:Ej ((He w (Rw gl) B).get j)=some k:=h2;rcases Asy j h1 with ⟨q1,q0,q2⟩|⟨e,_,_,q2⟩|q2|q2;. rw [q2] at R3;cases R3;refine ⟨by show w.heap.size+j<w.heap.size+w.heap.size;omega,0,?_⟩;show (He w (Rw gl) B).get (w.heap.size+j)=.Fb 0;rw [hi j,if_pos q1]
   . rw [q2] at R3;cases R3
   . rw [q2] at R3;cases R3
   . rw [q2] at R3;cases R3
 . intro j j' k h1 h2 h3 h4;have h3':M2 ((He w (Rw gl) B).get j)=some k:=h3;have h4':M2 ((He w (Rw gl) B).get j')=some k:=h4;rcases Asy j h1 with ⟨q1,q0,q2⟩|⟨e,_,_,q2⟩|q2|q2
   . rw [q2] at h3';cases h3';rcases Asy j' h2 with ⟨r1,r0,r2⟩|⟨e,_,_,r2⟩|r2|r2;. rw [r2] at h4';have h5:w.heap.size+j'=w.heap.size+j:=Option.some.inj h4';omega
     . rw [r2] at h4';cases h4'
     . rw [r2] at h4';cases h4'
     . rw [r2] at h4';cases h4'
   . rw [q2] at h3';cases h3'
   . rw [q2] at h3';cases h3'
   . rw [q2] at h3';cases h3'
 . intro j l t k st n h1 h2;have R3:(He w (Rw gl) B).get j=.cells l t (.Cf k st):=h2;rcases Asy j h1 with ⟨q1,q0,q2⟩|⟨e,_,_,q2⟩|q2|q2;all_goals rw [q2] at R3;cases R3
 . intro j j' l t k st l' t' h1 h2 h3;have h3':(He w (Rw gl) B).get j=.cells l t (.Cf k st):=h3;rcases Asy j h1 with ⟨q1,q0,q2⟩|⟨e,_,_,q2⟩|q2|q2;all_goals rw [q2] at h3';cases h3'
 . intro b b' e e' h1 h2 h3;have q1:=AiC h1;have q2:=AiC h2;exact .inl om
 . intro b e h1;rcases Rh h1 with ⟨q1,rfl⟩|⟨_,q⟩;. exact B6 b q1
   . have:=Gm q;omega
 . intro b e h1;rcases Rh h1 with ⟨q1,rfl⟩|⟨_,q⟩;. have:=B6 b q1;omega
   . have:=Gm q;omega
 . intro b e h1;show Gr _ _ (He w (Rw gl) B).get e w ((He w (Rw gl) B).get b);rcases Rh h1 with ⟨q1,rfl⟩|⟨q0,q⟩
   . rw [lo b (B6 b q1),if_pos q1];obtain ⟨⟨arr,t,Z6,hi',h2⟩,_⟩:=hB b q1;have e1:AhS w b=arr.toList.map Abp:=by unfold AhS;rw [h2]
     have e2:Anp w b=t:=by unfold Anp;rw [h2]
     have e3:AqX w b=arr.size:=by unfold AqX;rw [h2]
     refine ⟨rfl,λ_=>⟨arr,Z6,hi',by rw [e2];exact h2,e3.symm,by show (AhS w b).length<=AqX w b;rw [e1,e3];simp,?_,(λhh=>by cases hh),λ(hh:False)=>hh.elim⟩⟩;intro i x y hx hy;rw [e1] at hx;exact Anq _ arr.toList i x y hx (by simpa using hy)
   . have hb:=(Gm q).1;rw [lo b om,if_neg q0];have h2:=low b e q;have h3:Gr P.globals.size (Y0 P.globals.size w) (Rw gl).get e w ((Rw gl).get b):=h2;rcases AvL b om with ⟨ge,p1,p2,p3⟩|⟨_,p3⟩;. rw [p3] at h3 ⊢;obtain ⟨h4,h5⟩:=h3;refine ⟨h4,λ_=>?_⟩;obtain ⟨arr,Z6,hi',r1,r2,r3,r4,r5⟩:=h5 trivial;refine ⟨arr,Z6,hi',r1,r2,r3,λi x y hx hy=>?_,r5⟩;exact Aex (List.all_eq_true.1 (Mf Ga ge p1).2 x (List.mem_of_getElem? hx)) (r4 i x y hx hy) _
     . rw [p3];trivial
theorem Aso {G}:Vm G (Pn G w B):=by
 intro g hg;by_cases h1:g∈B;. exact ⟨_,if_pos h1,rfl⟩
 . exact ⟨_,by unfold Pn;rw [if_neg h1];exact if_pos hg,rfl⟩
theorem Aol {G} (hG:G<=w.heap.size) (hB:Qn gl w B) b (hb:(Adk gl w B).nx<=b):Pn G w B b=none:=by have hb':w.heap.size+w.heap.size<=b:=hb;unfold Pn;rw [if_neg λh=>by have:=hB.lt b h;omega];unfold Y0;grind
theorem AaC {h h1}:∀gl,(∀e∈gl,h1.m.get e.g=h.m.get e.g)->Hj gl h=true->Hj gl h1=true
 |[],_,_=>rfl
 |e::gl,hs,ho=>by have hg:=hs e List.mem_cons_self ..;unfold Hj at ho ⊢;rw [hg];revert ho;cases h.m.get _ with
  |cells l t k=>cases k with
   |exact=>
    intro ho;dsimp at ho ⊢;rcases Bool.eq_false_or_eq_true (Sh l _) with a1|a1
    . rw [a1] at ho ⊢;rcases Bool.eq_false_or_eq_true (Nat.beq t _) with a2|a2;. rw [a2] at ho ⊢;exact AaC _ (λe he=>hs e (List.mem_cons_of_mem _ he)) ho
      simp_all
    simp_all
   |fz c=>simp_all
   |Gt c=>simp
   |Cf c st=>simp
  |_=>grind
theorem Aom (hw:WOk P gl w) (Ga:P8 P.globals.size gl=true) (hB:Qn gl w B) (ho:Hj gl (glH gl P.globals.size)=true):Hj gl (Adk gl w B)=true:=by refine AaC _ (λe he=>?_) ho;have h1:=(Mf Ga e he).1;have:=hw.size;show (He w _ B).get _=(Rw _).get _;rw [Ua B hB.lt _ om,if_neg λhb=>(hB _ hb).2 e he rfl]
theorem flat_lit {σ} {x} {y} (hf:AaA x=true) (h:Au σ x y):x=Abp y:=by cases h<;>first|(cases hf;done)|rfl
theorem Aok (hw:WOk P gl w) (Ga:P8 P.globals.size gl=true) (hB:Qn gl w B) {b:Nat} {arr:Array Value} {t:TypeId} {fr:Nat × Nat} (hg:w.heap[b]?=some (.cells arr t fr)) (hb:b∈B\/∃e∈gl,e.g=b):
 Sx.Nv (Adk gl w B) b (arr.toList.map Abp)/\∃e:SE,Pn P.globals.size w B b=some e/\e.c=b:=by
 have B6:=Dj hg;have hnx:b<w.heap.size+w.heap.size:=by omega
 rcases hb with hb|⟨ge,h1,h2⟩
 . have e1:AhS w b=arr.toList.map Abp:=by unfold AhS;rw [hg]
   refine ⟨⟨hnx,Anp w b,.fz (w.heap.size+b),?_,trivial⟩,_,if_pos hb,rfl⟩;show (He w (Rw gl) B).get b=_;rw [Ua B hB.lt b B6,if_pos hb,e1]
 . subst h2;have hnb:ge.g ∉ B:=λhb=>(hB ge.g hb).2 ge h1 rfl;obtain ⟨h3,h4⟩:=Mf Ga ge h1;obtain ⟨Amz,lo,hi,q1,_,q3⟩:=hw.vars ge h1;rw [hg] at q1;cases q1;have e1:ge.l=arr.toList.map Abp:=by
    have q4:=q3 (λ_=>none);apply List.ext_getElem?;intro i;rw [List.getElem?_map];by_cases hi:i<ge.l.length
    . have hi2:i<arr.toList.length:=by rw [<- q4.1];exact hi
      rw [List.getElem?_eq_getElem hi,List.getElem?_eq_getElem hi2];have q5:=q4.2 i _ _ (List.getElem?_eq_getElem hi) (List.getElem?_eq_getElem hi2);exact congrArg some (flat_lit (List.all_eq_true.1 h4 _ (List.getElem_mem hi)) q5)
    . have hi2:¬ i<arr.toList.length:=by rw [<- q4.1];exact hi
      grind
   have O9:(He w (Rw gl) B).get ge.g=.cells ge.l ge.t .exact:=by
    rw [Ua B hB.lt ge.g B6,if_neg hnb];let i:Ii:=⟨P.globals.size⟩;rcases @Xx i P.globals.size (Nat.le_refl _) gl Ga ge.g h3 with ⟨e',r1,r2,r3⟩|⟨r1,_⟩
    . obtain ⟨Am0,lo2,hi2,s1,_,s3⟩:=hw.vars e' r1;rw [r2,hg] at s1;have s2:arr=Am0/\ge.t=e'.t:=by simp_all
      obtain ⟨rfl,ht⟩:=s2;rw [r3];have q4:=q3 (λ_=>none);have s4:=s3 (λ_=>none);have P4:e'.l=ge.l:=by
       rw [e1];apply List.ext_getElem?;intro i;rw [List.getElem?_map];by_cases hi:i<e'.l.length
       . have hi2:i<arr.toList.length:=by rw [<- s4.1];exact hi
         rw [List.getElem?_eq_getElem hi,List.getElem?_eq_getElem hi2];exact congrArg some (flat_lit (List.all_eq_true.1 (Mf Ga e' r1).2 _ (List.getElem_mem hi)) (s4.2 i _ _ (List.getElem?_eq_getElem hi) (List.getElem?_eq_getElem hi2)))
       . have hi2:¬ i<arr.toList.length:=by rw [<- s4.1];exact hi
         simp_all
      rw [P4,ht]
    grind
   refine ⟨⟨hnx,ge.t,.exact,?_,trivial⟩,⟨ge.g,(match w.heap[ge.g]? with|some (.cells arr _ _)=>arr.size|_=>0),none⟩,?_,rfl⟩;. show (He w (Rw gl) B).get ge.g=_;rw [O9,e1]
   . unfold Pn;rw [if_neg hnb];unfold Y0;exact if_pos h3
theorem Aon {α:Type} {f:α->List AV} {s:Nat} (hs:0<s) (hw:WOk P gl w) (Ga:P8 P.globals.size gl=true) (hB:Qn gl w B) (hld:Ams w a) (hb:a.block∈B\/∃e∈gl,e.g=a.block) {len cap:Nat} (hle:len<=cap)
 (hel:∀i,i<cap->∃(x:α) (cs:List Value),w.cells? 0 (a.add (i * s)) s=some cs/\cs.map Abp=f x):
 ∃l:List α,l.length=len/\Sx.R0 s f (Adk gl w B) (.sl a.block a.off len cap s true) l/\Au (Pn P.globals.size w B) (.sl a.block a.off len cap s true) (.slice (some a) len cap):=by
 obtain ⟨ha,arr,t,lo,hi,hg,ho⟩:=hld;obtain ⟨hc,e,he,hec⟩:=Aok hw Ga hB hg hb;have AeB:a.off+len * s<=arr.size:=by cases len with
  |zero=>omega
  |succ n=>obtain ⟨x,cs,h1,_⟩:=hel n om;have:=(Ahc ha hg h1).2 hs;grind
 have Q0:Au (Pn P.globals.size w B) (.sl a.block a.off len cap s true) (.slice (some a) len cap):=by obtain ⟨b,o,sp⟩:=a;simp only at ha hec he;subst ha;subst hec;exact Au.sl e.c o len cap s true e cap he hle (Nat.le_refl _) (λ_=>rfl) (λhh=>by grind)
 suffices h:∃l:List α,l.length=len/\((arr.toList.map Abp).drop a.off).take (len * s)=l.flatMap f by
  obtain ⟨l,h1,h2⟩:=h;refine ⟨l,h1,.inr ⟨a.block,a.off,cap,true,arr.toList.map Abp,?_,?_,hc,?_,?_⟩,Q0⟩;. rw [h1]
  . omega
  . grind
  simp_all
 by_cases h0:len=0;. simp_all
 . obtain ⟨x0,_⟩:=hel 0 om;have hx:∀i,∃x:α,i<len->((arr.toList.map Abp).drop (a.off+i * s)).take s=f x:=by
    intro i;by_cases hi:i<len;. obtain ⟨x,cs,h1,h2⟩:=hel i om;refine ⟨x,λ_=>?_⟩;rw [<- h2,(Ahc ha hg h1).1,List.map_take,List.map_drop]
    grind
   exact ⟨(List.range len).map λi=>Classical.choose (hx i),by simp,AeW _ _ _ len (λi hi=>Classical.choose_spec (hx i) hi)⟩
section
variable {H:Type} {enc:TypeId × Value->H} {P:Program} {W W':World}
theorem Kept.sameAt (hk:Kept W W') {p} (hp:p.block<W.heap.size):W.sameAt W' p:=by cases p with
 |cell b off=>show W'.cell? _=W.cell? _;unfold World.cell?;simp [hk.same b hp]
 |map b=>exact hk.same b hp
theorem AhK (hk:Kept W W') {sp}:∀{ts} {vs} {ds} {ps},(∀p∈ps,p.block<W.heap.size)->DataW.TrodAll enc P W 0 sp true ts vs ds ps->DataW.TrodAll enc P W' 0 sp true ts vs ds ps
 |[],[],[],_,_,h=>h
 |_::_,_::_,_::_,_,hs,⟨p,q,⟨n,h1⟩,h2,e⟩=>⟨p,q,⟨n,DataW.trod_carry n _ _ _ h1 λx hx=>hk.sameAt (hs x (by grind))⟩,AhK hk (λx hx=>hs x (by simp_all)) h2,e⟩
theorem Amy (hl:laidOutB P=true) (hm:mapsRowed P=true) (hz:((List.range P.types.size).all λt=>match P.underlying t with|some (.slice e)=>decide (0<P.cellsOf e)|_=>true)=true) (hk:Kept W W')
 {ts:List TypeId} {vs} {ds} {ps} (ht:∀t∈ts,t<P.types.size) (h:DataW.TrodAll enc P W 0 (λ_=>true) true ts vs ds ps):
 DataW.TrodAll enc P W' 0 (λb=>decide (b<W.heap.size)) true ts vs ds ps:=by have B6:=h.lt;exact AhK hk B6 (DataW.TrodAll.respare (kids_rows hl hm) (slices_full_of P hz) ht h λp hp=>decide_eq_true (B6 p hp))
end
end Go.Ev
