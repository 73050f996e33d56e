/- The evaluator in the form of continuations: where it comes to a result, the other comes to the same. Operations without a frame: what the printed texts of functions are made of. What the operations of the printed texts come to. Runs that leave what was there: heaps that only grow, and slices in them. Runs that leave what was there, however much they add: heaps that grow, what can be read in them, slices. Contracts of functions on plain values: a table of what calls come to, for open data. The steps of the walks under short names, and closing tactics as default arguments. The table of runs, for every bound on blocks. From a run over open data to a call of the model. What the evaluator sees of a value that lies in the world: numbers, texts and truths as they are. Lists that lie in the caller's memory, as the evaluator sees them. What a caller's memory reads as, behind a call that keeps it. -/
import Derived.Test.YtecikbfimlolcaaGreatDoorEvD
import Derived.Test.YtecikbfimlolcaaGreatDoorEvA
import Derived.Test.YtecikbfimlolcaaGreatDoorEvB
import Derived.KernelRfl
import Derived.Test.YtecikbfimlolcaaGreatDoorEvF
import Derived.Deep.Slices
import Derived.OpenShut
import Derived.ReadAgain
import Derived.ChangeOld
set_option linter.unusedSimpArgs false
set_option linter.unusedVariables false
set_option linter.unusedSectionVars false
namespace Go.Ev
noncomputable section
abbrev KT:=L2->H->OR
def bindK (k:AV->H->OR) (r:OR):OR:=OR.rec (motive:=fun _=>OR) OR.bad k (fun _ _=>.bad 400) r
def Aa (r:OR) (k:AV->H->OR):OR:=bindK k r
def condB (x:VB) (a b:OR):OR:=VB.rec (motive:=fun _=>OR) (.bad 401) (fun c=>Bool.rec (motive:=fun _=>OR) b a c) x
def Ah (x:AV) (a b:OR):OR:=condB (vB x) a b
def opX (o:Oper):Program->Ae->L2->H->OR:=Option.rec (motive:=fun _=>Program->Ae->L2->H->OR) (fun P ctx f h=>opD o.op o.type P ctx f h) (fun _ _ _ _ _=>.bad 402) (isDefer o.op)
def Ac (x:AV) (w:Bool) (r:OR) (h:H):OR:=WT.rec (motive:=fun _=>OR) r (.ok (.Bl []) h) (.bad 182) (wantV x w)
def guardX (g:GS) (o:Oper) (P:Program) (ctx:Ae) (f:L2) (h:H):OR:=GS.rec (motive:=fun _=>OR) (opX o P ctx f h) (fun t w=>Ac (f.get t) w (opX o P ctx f h) h) (.bad 182) g
def xOps (P:Program) (ctx:Ae) (ops:Array Oper) (l:List Oper):KT->KT:=
 List.rec (motive:=fun _=>KT->KT) (fun k=>k) (fun o _ ih k f h=>bindK (fun v h'=>ih k (putD o.dst v f) h') (guardX (guardOf ops o) o P ctx f h)) l
def F4 (lg:List Nat) (efs:List EF) (h:H) (k:H->OR):OR:=Bool.rec (motive:=fun _=>OR) (.bad 183) (k (Ap (Ec efs lg) h)) (effOk efs)
def drPr (ops:Array Oper) (i:Nat):Nat:=match (dops ops.toList 0 [])[i]? with|some o=>o.pr|none=>0
def dopsX (ops:Array Oper):List Oper->Nat->List DO:=fun l=>List.rec (motive:=fun _=>Nat->List DO) (fun _=>[]) (fun o _ ih i=>⟨o,bitOf i,drPr ops i⟩::ih (Nat.succ i)) l
def xDr (P:Program) (ctx:Ae) (ops:Array Oper) (lg:List Nat) (l:List DO):List EF->KT->KT:=
 List.rec (motive:=fun _=>List EF->KT->KT) (fun efs k f h=>F4 lg efs h (fun h'=>k f h'))
  (fun o _ ih efs k f h=>bindK (fun v h'=>ih (⟨o.bit,o.pr,wrote h.nx h'.lg,F2 o.o.op f,h,h'.nx⟩::efs) k (putD o.o.dst v f) h') (guardX (guardOf ops o.o) o.o P ctx f (Ab h))) l
def bindQK (h:H) (k:AV->H->OR) (r:OR):OR:=OR.rec (motive:=fun _=>OR) OR.bad (fun v h'=>Bool.rec (motive:=fun _=>OR) (.bad 409) (k v h') (nilN (wrote h.nx h'.lg))) (fun _ _=>.bad 400) r
def Aj (h:H) (r:OR) (k:AV->H->OR):OR:=bindQK h k r
def xQu (P:Program) (ctx:Ae) (ops:Array Oper) (lg:List Nat) (l:List Oper):KT->KT:=
 List.rec (motive:=fun _=>KT->KT) (fun k f h=>k f (Ap lg h))
  (fun o _ ih k f h=>bindQK h (fun v h'=>ih k (putD o.dst v f) h') (guardX (guardOf ops o) o P ctx f (Ab h))) l
def xDrawn (q:Bool) (ops:Array Oper) (P:Program) (ctx:Ae) (k:KT):KT:=fun f h=>Bool.rec (motive:=fun _=>OR) (xDr P ctx ops h.lg (dopsX ops ops.toList 0) [] k f h) (xQu P ctx ops h.lg ops.toList k f h) q
def xRegion (q:Bool) (ops:Array Oper) (dr:Bool) (P:Program) (ctx:Ae) (k:KT):KT:=
 Bool.rec (motive:=fun _=>KT) (xOps P ctx ops ops.toList k) (fun f h=>Bool.rec (motive:=fun _=>OR) (.bad 185) (xDrawn q ops P ctx k f h) (noDf ops)) dr
def Gg (id:Nat) (k:KT) (j:Nat->KT):Nat->KT:=fun i f h=>Bool.rec (motive:=fun _=>OR) (j i f h) (k f h) (Nat.beq i id)
def loopX (b:KT->KT) (n:Nat):KT:=Nat.rec (motive:=fun _=>KT) (fun _ _=>.bad 404) (fun _ ih=>b ih) n
abbrev XT:=Program->Ae->Nat->Bool->(Nat->KT)->KT->KT->KT
def bar0 (k:KT):KT:=k
def bar1 (k:KT):KT:=bar0 k
def bar2 (k:KT):KT:=bar1 k
def bar3 (k:KT):KT:=bar2 k
def bar (k:KT):KT:=bar3 k
def xc (c:Code):XT:=Code.rec (motive:=fun _=>XT) (fun _ _ _ _ _ _ k=>k) (fun _ ops dr P ctx _ q _ _ k=>xRegion q ops dr P ctx k) (fun _ _ a b P ctx N q j r k=>a P ctx N q j r (bar (b P ctx N q j r k)))
 (fun c _ _ a b P ctx N q j r k f h=>Ah (ev c f) (a P ctx N q j r k f h) (b P ctx N q j r k f h)) (fun id _ a P ctx N q j r k=>a P ctx N q (Gg id k j) r k)
 (fun _ a P ctx N q j r _=>loopX (fun k=>a P ctx N q j r k) N) (fun _ _ _ _ _ _ _ _ _ _ _ _ _ _ _=>.bad 403) (fun id _ _ _ _ j _ _=>j id) (fun _ a=>a)
 (fun _ _ _ _ _ _ _ k=>k) (fun _ _ _ _ _ _ _ _ _ _=>.bad 193) (fun _ _ _ _ _ r _=>r) (fun _ _ _ _ _ _ _ _ _ _=>.bad 194) c
def finD (P:Program) (rs:List ResultVar) (x:VA) (f:L2) (h:H):OR:=VA.rec (motive:=fun _=>OR) (.bad 198) (fun ds=>List.rec (motive:=fun _=>OR) (F1 P rs f h) (fun _ _ _=>.bad 408) ds) x
def Ci (P:Program) (rs:List ResultVar):KT:=fun f h=>finD P rs (vT (f.get Bi)) f h
def callXI (P:Program) (ctx:Ae) (N:Nat) (q:Bool) (args:List AV) (h:H) (i:FI):OR:=
 Bool.rec (motive:=fun _=>OR) (.bad 407) (xc i.body P ctx N q (fun _ _ _=>.bad 406) (Ci P i.rs) (Ci P i.rs) (Em args 0 As) h) (Nat.ble (llen args) i.nt)
def An (P:Program) (ctx:Ae) (N:Nat) (q:Bool) (g:FuncId) (args:List AV) (h:H):OR:=Option.rec (motive:=fun _=>OR) (.bad 405) (callXI P ctx N q args h) (fnInfo P g)
variable {P:Program} {ctx:Ae} {h h':H} {v:AV} {f f':L2}
theorem bindR_ok_inv {r:OR} {k:AV->H->OR} (he:Aa r k=.ok v h'):∃ u h1,r=.ok u h1/\k u h1=.ok v h':=by
 cases r with
 |bad n=>cases he
 |ok u h1=>exact ⟨u,h1,rfl,he⟩
 |pan u h1=>cases he
def Leads (j:Nat->KT) (r k:KT) (v:AV) (h':H):RC->Prop
 |.bad _=>False
 |.Ar f h=>k f h=.ok v h'
 |.ext i f h=>j i f h=.ok v h'
 |.ret f h=>r f h=.ok v h'
theorem guardX_oper {ops:Array Oper} {o:Oper} {u:AV} {h1:H} (he:guardX (guardOf ops o) o P ctx f h=.ok u h1):Fe ops o P ctx f h=.Ar (putD o.dst u f) h1:=by
 have C2:∀ {u:AV} {h1:H},opX o P ctx f h=.ok u h1->runIt o P ctx f h=.Ar (putD o.dst u f) h1:=by
  intro u h1 he
  unfold opX at he
  show op1 o o.dst o.type P ctx f h=_
  unfold op1
  cases hd:isDefer o.op with
  |some c=>rw [hd] at he;cases he
  |none=>
   rw [hd] at he
   have he':opD o.op o.type P ctx f h=.ok u h1:=he
   show putR o.dst f h o.op (opD o.op o.type P ctx f h)=_
   rw [he']
   rfl
 show guardR (guardOf ops o) o P ctx f h=_
 unfold guardX at he
 cases hg:guardOf ops o with
 |bad=>rw [hg] at he;cases he
 |always=>rw [hg] at he;exact C2 he
 |on t w=>
  rw [hg] at he
  have he':Ac (f.get t) w (opX o P ctx f h) h=.ok u h1:=he
  show wantR (wantV (f.get t) w) o P ctx f h=_
  unfold Ac at he'
  cases hw:wantV (f.get t) w with
  |yes=>rw [hw] at he';exact C2 he'
  |no=>rw [hw] at he';cases he';rfl
  |bad=>rw [hw] at he';cases he'
theorem xOps_leads {ops:Array Oper} {j:Nat->KT} {r k:KT}:∀ (l:List Oper) (f:L2) (h:H),xOps P ctx ops l k f h=.ok v h'->Leads j r k v h' (Gr P ctx ops l f h):=by
 intro l
 induction l with
 |nil=>intro f h he;exact he
 |cons o l ih=>
  intro f h he
  obtain ⟨u,h1,h2,h3⟩:=bindR_ok_inv (show Aa _ _=_ from he)
  show Leads j r k v h' (andThen (Gr P ctx ops l) (Fe ops o P ctx f h))
  rw [guardX_oper h2]
  exact ih _ _ h3
theorem xdops_get:∀ (l:List Oper) (i:Nat) (acc:List Nat) (k:Nat) (d:DO),(dops l i acc)[k]?=some d->(∃ o,l[k]?=some o/\d.o=o)/\d.bit=bitOf (i+k):=by
 intro l
 induction l with
 |nil=>intro i acc k d hd;simp [dops] at hd
 |cons o l ih=>
  intro i acc k d hd
  cases k with
  |zero=>simp [dops] at hd;subst hd;exact ⟨⟨o,by simp,rfl⟩,rfl⟩
  |succ k=>
   have hd':(dops l (Nat.succ i) (acc++[Er acc o.after.toList]))[k]?=some d:=by simpa [dops] using hd
   obtain ⟨⟨o',h1,h2⟩,h3⟩:=ih _ _ _ _ hd'
   exact ⟨⟨o',by simpa using h1,h2⟩,by rw [h3];congr 1;omega⟩
theorem xdops_length:∀ (l:List Oper) (i:Nat) (acc:List Nat),(dops l i acc).length=l.length:=by
 intro l
 induction l with
 |nil=>intro i acc;rfl
 |cons o l ih=>intro i acc;show (dops l _ _).length+1=_;rw [ih];rfl
theorem xdopsX_get (ops:Array Oper):∀ (l:List Oper) (i k:Nat),(dopsX ops l i)[k]?=(l[k]?).map fun o=>⟨o,bitOf (i+k),drPr ops (i+k)⟩:=by
 intro l
 induction l with
 |nil=>intro i k;rfl
 |cons o l ih=>
  intro i k
  cases k with
  |zero=>rfl
  |succ k=>
   show (dopsX ops l (Nat.succ i))[k]?=_
   rw [ih,show Nat.succ i+k=i+(k+1) by omega]
   rfl
theorem xdopsX_eq (ops:Array Oper):dopsX ops ops.toList 0=dops ops.toList 0 []:=by
 apply List.ext_getElem?
 intro k
 rw [xdopsX_get]
 cases hd:(dops ops.toList 0 [])[k]? with
 |none=>
  have h1:(dops ops.toList 0 []).length<=k:=by simpa using hd
  rw [xdops_length] at h1
  rw [List.getElem?_eq_none h1]
  rfl
 |some d=>
  obtain ⟨⟨o,h1,h2⟩,h3⟩:=xdops_get _ _ _ _ _ hd
  rw [h1]
  have h4:drPr ops k=d.pr:=by unfold drPr;rw [hd]
  show some (⟨o,bitOf (0+k),drPr ops (0+k)⟩:DO)=some d
  rw [<- h3,Nat.zero_add,h4,<- h2]
theorem xDr_leads {ops:Array Oper} {lg:List Nat} {j:Nat->KT} {r k:KT}:∀ (l:List DO) (efs:List EF) (f:L2) (h:H),xDr P ctx ops lg l efs k f h=.ok v h'->Leads j r k v h' (drOps P ctx ops lg l efs f h):=by
 intro l
 induction l with
 |nil=>
  intro efs f h he
  have he':F4 lg efs h (fun h'=>k f h')=.ok v h':=he
  show Leads j r k v h' (drDone lg efs f h)
  unfold F4 at he'
  unfold drDone
  cases hb:effOk efs with
  |false=>rw [hb] at he';cases he'
  |true=>rw [hb] at he';exact he'
 |cons o l ih=>
  intro efs f h he
  obtain ⟨u,h1,h2,h3⟩:=bindR_ok_inv (show Aa _ _=_ from he)
  show Leads j r k v h' (RC.rec (motive:=fun _=>RC) RC.bad (fun f' h'=>drOps P ctx ops lg l (⟨o.bit,o.pr,wrote h.nx h'.lg,F2 o.o.op f,h,h'.nx⟩::efs) f' h') (fun _ _ _=>.bad 184) (fun _ _=>.bad 184) (Fe ops o.o P ctx f (Ab h)))
  rw [guardX_oper h2]
  exact ih _ _ _ h3
theorem xnilN_nil {l:List Nat} (hn:nilN l=true):l=[]:=by cases l with|nil=>rfl|cons a l=>cases hn
theorem xQu_leads {ops:Array Oper} {lg:List Nat} {j:Nat->KT} {r k:KT}:∀ (l:List DO) (efs:List EF) (f:L2) (h:H),(∀ e∈efs,e.w=[])->xQu P ctx ops lg (l.map (·.o)) k f h=.ok v h'->Leads j r k v h' (drOps P ctx ops lg l efs f h):=by
 intro l
 induction l with
 |nil=>
  intro efs f h hq he
  show Leads j r k v h' (drDone lg efs f h)
  have h1:∀ (all:List EF) (l:List EF),(∀ e∈l,e.w=[])->effGo all l=true:=by
   intro all l
   induction l with
   |nil=>intro _;rfl
   |cons e l ih=>
    intro hl
    show (Bool.rec (motive:=fun _=>Bool) (Bool.rec (motive:=fun _=>Bool) false (effGo all l) (Fm e all)) (effGo all l) (nilN e.w):Bool)=true
    rw [hl e (by simp)]
    exact ih fun x hx=>hl x (by simp [hx])
  have h2:∀ (l:List EF),(∀ e∈l,e.w=[])->Ec l lg=lg:=by
   intro l
   induction l with
   |nil=>intro _;rfl
   |cons e l ih=>
    intro hl
    show napp e.w (Ec l lg)=lg
    rw [hl e (by simp),ih fun x hx=>hl x (by simp [hx])]
    rfl
  unfold drDone effOk
  rw [h1 efs efs hq,h2 efs hq]
  exact he
 |cons o l ih=>
  intro efs f h hq he
  obtain ⟨u,h1,h2,h3⟩:=bindR_ok_inv (show Aa _ (fun v h'=>Bool.rec (motive:=fun _=>OR) (.bad 409) (xQu P ctx ops lg (l.map (·.o)) k (putD o.o.dst v f) h') (nilN (wrote h.nx h'.lg)))=_ from he)
  show Leads j r k v h' (RC.rec (motive:=fun _=>RC) RC.bad (fun f' h'=>drOps P ctx ops lg l (⟨o.bit,o.pr,wrote h.nx h'.lg,F2 o.o.op f,h,h'.nx⟩::efs) f' h') (fun _ _ _=>.bad 184) (fun _ _=>.bad 184) (Fe ops o.o P ctx f (Ab h)))
  rw [guardX_oper h2]
  cases hb:nilN (wrote h.nx h1.lg) with
  |false=>rw [hb] at h3;cases h3
  |true=>
   rw [hb] at h3
   refine ih _ _ _ ?_ h3
   intro e he
   rcases List.mem_cons.1 he with rfl|he
   . exact xnilN_nil hb
   . exact hq e he
theorem xdops_o:∀ (l:List Oper) (i:Nat) (acc:List Nat),(dops l i acc).map (·.o)=l:=by
 intro l
 induction l with
 |nil=>intro i acc;rfl
 |cons o l ih=>intro i acc;show o::(dops l _ _).map (·.o)=_;rw [ih]
def iterR (b:L2->H->RC) (n:Nat):L2->H->RC:=Nat.rec (motive:=fun _=>L2->H->RC) (fun f h=>.Ar f h) (fun _ ih f h=>andThen ih (b f h)) n
theorem xandThen_assoc (a b:L2->H->RC) (r:RC):andThen a (andThen b r)=andThen (fun f h=>andThen a (b f h)) r:=by cases r<;>rfl
theorem iterR_add (b:L2->H->RC) (m:Nat):∀ n f h,iterR b (n+m) f h=andThen (iterR b m) (iterR b n f h):=by
 intro n
 induction n with
 |zero=>intro f h;rw [Nat.zero_add];rfl
 |succ n ih=>
  intro f h
  rw [Nat.succ_add]
  show andThen (iterR b (n+m)) (b f h)=andThen (iterR b m) (andThen (iterR b n) (b f h))
  rw [xandThen_assoc]
  congr 1
  funext f h
  exact ih f h
theorem loopK_iter (b:Fj):∀ k f h,loopK b P ctx k f h=iterR (b P ctx) (2 ^ k) f h:=by
 intro k
 induction k with
 |zero=>intro f h;show b P ctx f h=andThen (iterR (b P ctx) 0) (b P ctx f h);cases b P ctx f h<;>rfl
 |succ k ih=>
  intro f h
  rw [Nat.pow_succ,Nat.mul_two,iterR_add]
  show andThen (loopK b P ctx k) (loopK b P ctx k f h)=_
  rw [ih f h]
  congr 1
  funext f h
  exact ih f h
theorem xc_leads {N:Nat} {q:Bool} (hN:N<=1048576) (c:Code):∀ (j:Nat->KT) (r k:KT) (f:L2) (h:H),xc c P ctx N q j r k f h=.ok v h'->Leads j r k v h' (exec c P ctx f h):=by
 induction c with
 |skip=>intro j r k f h he;exact he
 |region id ops dr=>
  intro j r k f h he
  have he':xRegion q ops dr P ctx k f h=.ok v h':=he
  cases dr with
  |false=>exact xOps_leads _ _ _ he'
  |true=>
   have he2:(Bool.rec (motive:=fun _=>OR) (.bad 185) (xDrawn q ops P ctx k f h) (noDf ops):OR)=.ok v h':=he'
   show Leads j r k v h' (F5 P ctx ops f h)
   unfold F5
   cases hn:noDf ops with
   |false=>rw [hn] at he2;cases he2
   |true=>
    rw [hn] at he2
    cases q with
    |false=>
     have he3:xDr P ctx ops h.lg (dopsX ops ops.toList 0) [] k f h=.ok v h':=he2
     rw [xdopsX_eq] at he3
     exact xDr_leads _ _ _ _ he3
    |true=>
     have he3:xQu P ctx ops h.lg ops.toList k f h=.ok v h':=he2
     rw [<- xdops_o ops.toList 0 []] at he3
     exact xQu_leads _ _ _ _ (fun e he=>by cases he) he3
 |seq a b iha ihb=>
  intro j r k f h he
  have h1:=iha j r (xc b P ctx N q j r k) f h he
  show Leads j r k v h' (andThen (exec b P ctx) (exec a P ctx f h))
  cases hx:exec a P ctx f h with
  |bad n=>rw [hx] at h1;exact h1.elim
  |Ar f1 h2=>rw [hx] at h1;exact ihb j r k f1 h2 h1
  |ext i f1 h2=>rw [hx] at h1;exact h1
  |ret f1 h2=>rw [hx] at h1;exact h1
 |cond x a b iha ihb=>
  intro j r k f h he
  have he':Ah (ev x f) (xc a P ctx N q j r k f h) (xc b P ctx N q j r k f h)=.ok v h':=he
  show Leads j r k v h' (condV (ev x f) (exec a) (exec b) P ctx f h)
  cases hx:ev x f with
  |bool c=>
   rw [hx] at he'
   cases c with
   |false=>exact ihb j r k f h he'
   |true=>exact iha j r k f h he'
  |_=>rw [hx] at he';cases he'
 |block id a iha=>
  intro j r k f h he
  have h1:=iha (Gg id k j) r k f h he
  show Leads j r k v h' (inBlock id (exec a P ctx f h))
  cases hx:exec a P ctx f h with
  |bad n=>rw [hx] at h1;exact h1.elim
  |Ar f1 h2=>rw [hx] at h1;exact h1
  |ext i f1 h2=>
   rw [hx] at h1
   have h2':(Bool.rec (motive:=fun _=>OR) (j i f1 h2) (k f1 h2) (Nat.beq i id):OR)=.ok v h':=h1
   show Leads j r k v h' (Bool.rec (motive:=fun _=>RC) (RC.ext i f1 h2) (RC.Ar f1 h2) (Nat.beq i id))
   cases hb:Nat.beq i id with
   |false=>rw [hb] at h2';exact h2'
   |true=>rw [hb] at h2';exact h2'
  |ret f1 h2=>rw [hx] at h1;exact h1
 |loop a iha=>
  intro j r k f h he
  have key:∀ n f h,loopX (fun k=>xc a P ctx N q j r k) n f h=.ok v h'->Leads j r (fun _ _=>.bad 0) v h' (iterR (exec a P ctx) n f h):=by
   intro n
   induction n with
   |zero=>intro f h he;cases he
   |succ n ih=>
    intro f h he
    have h1:=iha j r (loopX (fun k=>xc a P ctx N q j r k) n) f h he
    show Leads j r (fun _ _=>.bad 0) v h' (andThen (iterR (exec a P ctx) n) (exec a P ctx f h))
    cases hx:exec a P ctx f h with
    |bad n=>rw [hx] at h1;exact h1.elim
    |Ar f1 h2=>rw [hx] at h1;exact ih f1 h2 h1
    |ext i f1 h2=>rw [hx] at h1;exact h1
    |ret f1 h2=>rw [hx] at h1;exact h1
  have h1:=key N f h he
  show Leads j r k v h' (andThen (fun _ _=>.bad 187) (loopK (exec a) P ctx 20 f h))
  rw [loopK_iter,show (2:Nat) ^ 20=1048576 from rfl]
  rw [show 1048576=N+(1048576 - N) by omega,iterR_add]
  cases hx:iterR (exec a P ctx) N f h with
  |bad n=>rw [hx] at h1;exact h1.elim
  |Ar f1 h2=>rw [hx] at h1;cases h1
  |ext i f1 h2=>rw [hx] at h1;exact h1
  |ret f1 h2=>rw [hx] at h1;exact h1
 |rangeFunc x ps a b iha ihb=>intro j r k f h he;cases he
 |exit id=>intro j r k f h he;exact he
 |ret=>intro j r k f h he;exact he
 |scope a iha=>exact iha
 |_=>intro j r k f h he;first|exact he|cases he
theorem finX_finish {rs:List ResultVar} (he:Ci P rs f h=.ok v h'):finish P ctx rs f h=.ok v h':=by
 have he':finD P rs (vT (f.get Bi)) f h=.ok v h':=he
 unfold finish
 cases hv:vT (f.get Bi) with
 |no=>rw [hv] at he';cases he'
 |yes ds=>
  rw [hv] at he'
  cases ds with
  |nil=>exact he'
  |cons d ds=>cases he'
theorem callX_callF {N:Nat} {q:Bool} (hN:N<=1048576) {g:FuncId} {args:List AV} (he:An P ctx N q g args h=.ok v h'):Fc P ctx g args h=.ok v h':=by
 unfold An at he
 unfold Fc
 cases hi:fnInfo P g with
 |none=>rw [hi] at he;cases he
 |some i=>
  rw [hi] at he
  have he':callXI P ctx N q args h i=.ok v h':=he
  show callI P ctx g args h i=.ok v h'
  unfold callXI at he'
  unfold callI
  cases hb:Nat.ble (llen args) i.nt with
  |false=>rw [hb] at he';cases he'
  |true=>
   rw [hb] at he'
   have h1:=xc_leads hN i.body _ _ _ _ _ he'
   show tagF g (finishR P ctx i.rs (exec i.body P ctx (Em args 0 As) h))=.ok v h'
   cases hx:exec i.body P ctx (Em args 0 As) h with
   |bad n=>rw [hx] at h1;exact h1.elim
   |Ar f1 h2=>rw [hx] at h1;show tagF g (finish P ctx i.rs f1 h2)=_;rw [finX_finish h1];rfl
   |ext i f1 h2=>rw [hx] at h1;cases h1
   |ret f1 h2=>rw [hx] at h1;show tagF g (finish P ctx i.rs f1 h2)=_;rw [finX_finish h1];rfl
end
end Go.Ev
namespace Go.Ev
noncomputable section
abbrev Dz (x y:OR) (b:Bool):OR:=Bool.rec (motive:=fun _=>OR) x y b
def Al (P:Program) (op:BinOp) (t:TypeId) (c:Bool) (x y:AV) (h:H):OR:=binD x x y op t c P h
def xUn (op:UnOp) (x:AV) (h:H):OR:=
 match op with
 |.not=>match vB x with|.yes b=>.ok (.bool (bnot b)) h|.no=>.bad 44
 |.neg=>match vI x with|.yes k n=>.ok (.int k (Ga k (Int.sub 0 n))) h|.no=>.bad 45
 |_=>.bad 46
def xNil (x:AV) (h:H):OR:=Dz (.bad 28) (.ok x h) (notNil x)
def Ad (i:Option (Option Nat)) (a:AV) (h:H):OR:=ldV a i h
def Ao (n:Nat) (a x:AV) (h:H):OR:=stV a (cellsOf x) (some n) h
def F0 (e:TypeId) (x:AV) (h:H):OR:=newC (cellsOf x) e h
def fillX:List (Nat × Nat × AV)->List AV->Option (List AV)
 |[],cs=>some cs
 |p::rest,cs=>
  match (some (p.1,p.2.1):Option (Nat × Nat)),cellsOf p.2.2 with
  |some (off,size),some v=>match lput cs v off with|some cs'=>Bool.rec (motive:=fun _=>Option (List AV)) none (fillX rest cs') (Nat.beq (llen v) size)|none=>none
  |_,_=>none
def Dh (z:List AV) (l:List (Nat × Nat × AV)) (h:H):OR:=resAgg (fillX l z) h
def Bm (e:TypeId) (s n:Nat) (z:List AV) (l:List (Nat × Nat × AV)) (h:H):OR:=
 match fillX l z with
 |some cs=>mk h (.cells cs e .exact) (.sl h.nx 0 n n s true)
 |none=>.bad 20
def E3 (s:Nat) (x i:AV) (h:H):OR:=Option.rec (motive:=fun _=>OR) (.bad 92) (fun n=>iaS x n s h) (nat0 i)
def xIAa (len s:Nat) (x i:AV) (h:H):OR:=Option.rec (motive:=fun _=>OR) (.bad 92) (fun n=>iaA x len n s h) (nat0 i)
def xTA (z:AV) (ast:TypeId) (ok:Bool) (x:AV) (h:H):OR:=
 match (some z:Option AV),vIf x with
 |some z,.nil=>Dz (.bad 103) (.ok (.Bl [z,.bool false]) h) ok
 |some z,.yes t v=>Dz (Dz (.bad 104) (.ok (.Bl [z,.bool false]) h) ok) (.ok (Bool.rec (motive:=fun _=>AV) v (.Bl [v,.bool true]) ok) h) (Nat.beq t ast)
 |_,_=>.bad 105
def appI (i:SI) (s x:AV) (h:H):OR:=
 match srcOf h i.s x with
 |some (n,new)=>match vL s with
  |.nil=>Dz (Dz (.bad 120) (Dz (.bad 120) (grow h i.e i.s new n) (Bn new)) (Gq (n * (i.bytes+1)))) (.ok .Cb h) (Nat.beq n 0)
  |.yes b off len cap sz ex=>Dz (.bad 121) (Dz (.bad 121) (Dz (.bad 121) (appSl i b off len cap sz ex n new h) (Nat.beq sz i.s)) (Bn new)) (Gq ((len+n) * (i.bytes+1)))
  |.no=>.bad 122
 |none=>.bad 123
def xApp (e:TypeId) (s bytes:Nat) (x y:AV) (h:H):OR:=appI ⟨e,s,bytes⟩ x y h
def fr (f:L2) (l:List (Nat × AV)):L2:=List.rec (motive:=fun _=>L2->L2) (fun f=>f) (fun p _ ih f=>ih (f.set p.1 p.2)) l f
def opdX (x:Option AV) (n:Nat):Option Operand:=Option.rec (motive:=fun _=>Option Operand) none (fun _=>some (.tmp n)) x
def avX (x:Option AV):AV:=Option.rec (motive:=fun _=>AV) .top (fun y=>y) x
def xSl (P:Program) (t:TypeId) (x:AV) (lo hi:Option AV) (h:H):OR:=oSlice t (.tmp 0) (opdX lo 1) (opdX hi 2) none 0 P noCall (fr As [(0,x),(1,avX lo),(2,avX hi)]) h
def xIx (P:Program) (xi:XI) (x i:AV) (h:H):OR:=
 match xi,nat0 i with
 |.str,some n=>ixS x n h
 |.arr len si,some n=>match vA x with
  |.yes cs=>Dz (.bad 95) (res1 (partA P si.e cs (n * si.s)) h) (Nat.blt n len)
  |.no=>.bad 96
 |_,_=>.bad 97
def xLk (P:Program) (kt:TypeId) (z:AV) (ok:Bool) (m k:AV) (h:H):OR:=
 match (some ⟨kt,z⟩:Option MI),entries m h with
 |some mi,some es=>match Bool.rec (motive:=fun _=>Option (Option AV)) none (mfind (Gh P mi.kt k) es) (E0 P mi.kt k) with
  |some (some v)=>.ok (Bool.rec (motive:=fun _=>AV) v (.Bl [v,.bool true]) ok) h
  |some none=>.ok (Bool.rec (motive:=fun _=>AV) mi.z (.Bl [mi.z,.bool false]) ok) h
  |none=>.bad 98
 |_,_=>.bad 99
def xIns (P:Program) (kt:TypeId) (z:AV) (m k x:AV) (h:H):OR:=
 match (some ⟨kt,z⟩:Option MI),vM m with
 |some mi,.yes r=>
  (match h.m.get r with
  |.map es=>match Bool.rec (motive:=fun _=>Option (List (AV × AV))) none (mset (Gh P mi.kt k) k x es) (E0 P mi.kt k) with|some es'=>.ok (.Bl []) (h.put r (.map es'))|none=>.bad 100
  |_=>.bad 101)
 |_,_=>.bad 102
def kid (c:Code) (i:Nat):Code:=
 match c,i with
 |.seq a _,0=>a
 |.seq _ b,_=>b
 |.cond _ a _,0=>a
 |.cond _ _ b,_=>b
 |.block _ a,_=>a
 |.loop a,_=>a
 |.scope a,_=>a
 |c,_=>c
def sub (c:Code) (l:List Nat):Code:=List.rec (motive:=fun _=>Code->Code) (fun c=>c) (fun i _ ih c=>ih (kid c i)) l c
def Bo (P:Program) (g:FuncId):Code:=match fnInfo P g with|some i=>i.body|none=>.skip
def Aw (P:Program) (g:FuncId):List ResultVar:=match fnInfo P g with|some i=>i.rs|none=>[]
inductive RX where
 |v (x:AV)
 |c (i:Option (Option Nat)) (x:AV)
def resX (h:H):List RX->Option (List AV)
 |[]=>some []
 |.v x::rs=>match resX h rs with|some l=>some (x::l)|none=>none
 |.c i x::rs=>match ldAt i x h,resX h rs with|some v,some l=>some (v::l)|_,_=>none
def De (rs:List RX) (h:H):OR:=match resX h rs with|some l=>.ok (single l) h|none=>.bad 197
def mnm (P:Program) (t:TypeId) (i:Nat):String:=match P.info? t with|some x=>(match x.methods[i]? with|some m=>m.name|none=>nmNoEscape)|none=>nmNoEscape
end
end Go.Ev
namespace Go.Ev.Sx
open Go.Ev
variable [Lim]
variable {P:Program} {ctx:Ae} {h h0 h1:H} {v x y:AV}
@[simp] theorem bindR_ok (v:AV) (h:H) (k:AV->H->OR):Aa (.ok v h) k=k v h:=rfl
theorem bindQ_ok (v:AV) (h0 h1:H) (k:AV->H->OR) (hq:wrote h0.nx h1.lg=[]):Aj h0 (.ok v h1) k=k v h1:=by
 show (Bool.rec (motive:=fun _=>OR) (.bad 409) (k v h1) (nilN (wrote h0.nx h1.lg)):OR)=_
 rw [hq]
 rfl
@[simp] theorem bindQ_noLog (v:AV) (h0 h1:H) (k:AV->H->OR):Aj h0 (.ok v (Ab h1)) k=k v (Ab h1):=bindQ_ok v h0 (Ab h1) k rfl
@[simp] theorem Ef (a b:OR):Ah (.bool true) a b=a:=rfl
@[simp] theorem Dg (a b:OR):Ah (.bool false) a b=b:=rfl
@[simp] theorem wantX_tt (r:OR) (h:H):Ac (.bool true) true r h=r:=rfl
@[simp] theorem wantX_ff (r:OR) (h:H):Ac (.bool false) false r h=r:=rfl
@[simp] theorem wantX_tf (r:OR) (h:H):Ac (.bool true) false r h=.ok (.Bl []) h:=rfl
@[simp] theorem wantX_ft (r:OR) (h:H):Ac (.bool false) true r h=.ok (.Bl []) h:=rfl
@[simp] theorem wantX_tup (l:List AV) (w:Bool) (r:OR) (h:H):Ac (.Bl l) w r h=.ok (.Bl []) h:=rfl
@[simp] theorem pickV_t (x y:AV) (h:H):Av (.bool true) x y h=.ok x h:=rfl
@[simp] theorem pickV_f (x y:AV) (h:H):Av (.bool false) x y h=.ok y h:=rfl
@[simp] theorem noLog_m:(Ab h).m=h.m:=rfl
@[simp] theorem F6:(Ab h).nx=h.nx:=rfl
@[simp] theorem Ey:(Ab h).lg=[]:=rfl
@[simp] theorem noLog_noLog:Ab (Ab h)=Ab h:=rfl
@[simp] theorem reLog_m (lg:List Nat):(Ap lg h).m=h.m:=rfl
@[simp] theorem reLog_nx (lg:List Nat):(Ap lg h).nx=h.nx:=rfl
@[simp] theorem Ez (lg:List Nat):(Ap lg h).lg=lg:=rfl
@[simp] theorem reLog_noLog:Ap h.lg (Ab h)=h:=rfl
@[simp] theorem new_nx (o:AO):(h.new o).nx=h.nx+1:=rfl
@[simp] theorem new_lg (o:AO):(h.new o).lg=h.lg:=rfl
@[simp] theorem put_nx (b:Nat) (o:AO):(h.put b o).nx=h.nx:=rfl
@[simp] theorem put_lg (b:Nat) (o:AO):(h.put b o).lg=b::h.lg:=rfl
theorem new_get (o:AO) (b:Nat) (h1:h.nx<Bh) (h2:b<Bh):(h.new o).m.get b=if b=h.nx then o else h.m.get b:=KM.C9 _ _ _ _ h1 h2
theorem put_get (c:Nat) (o:AO) (b:Nat) (h1:c<Bh) (h2:b<Bh):(h.put c o).m.get b=if b=c then o else h.m.get b:=KM.C9 _ _ _ _ h1 h2
theorem Az (o:AO) (h1:h.nx<Bh):(h.new o).m.get h.nx=o:=by rw [new_get o _ h1 h1,if_pos rfl]
theorem new_get_ne (o:AO) (b:Nat) (h1:h.nx<Bh) (h2:b<Bh) (h3:b≠h.nx):(h.new o).m.get b=h.m.get b:=by rw [new_get o _ h1 h2,if_neg h3]
theorem Dp (c:Nat) (o:AO) (h1:c<Bh):(h.put c o).m.get c=o:=by rw [put_get c o _ h1 h1,if_pos rfl]
theorem C3 (c:Nat) (o:AO) (b:Nat) (h1:c<Bh) (h2:b<Bh) (h3:b≠c):(h.put c o).m.get b=h.m.get b:=by rw [put_get c o _ h1 h2,if_neg h3]
omit [Lim] in
theorem new_getU (o:AO) (b:Nat):(h.new o).m.get b=if b=h.nx then o else h.m.get b:=KM.get_set1 h.m h.nx b o
omit [Lim] in
theorem put_getU (c:Nat) (o:AO) (b:Nat):(h.put c o).m.get b=if b=c then o else h.m.get b:=KM.get_set1 h.m c b o
omit [Lim] in
@[simp] theorem Eh (o:AO):(h.new o).m.get h.nx=o:=by rw [new_getU,if_pos rfl]
omit [Lim] in
@[simp] theorem Fw (c:Nat) (o:AO):(h.put c o).m.get c=o:=by rw [put_getU,if_pos rfl]
omit [Lim] in
@[simp 900] theorem Gi (o:AO) (b:Nat) (h3:b≠h.nx):(h.new o).m.get b=h.m.get b:=by rw [new_getU,if_neg h3]
omit [Lim] in
@[simp 900] theorem B0 (c:Nat) (o:AO) (b:Nat) (h3:b≠c):(h.put c o).m.get b=h.m.get b:=by rw [put_getU,if_neg h3]
omit [Lim] in
@[simp 800] theorem new_get_eq (o:AO) (b:Nat) (h3:b<=h.nx) (h4:h.nx<=b):(h.new o).m.get b=o:=by rw [new_getU,if_pos (by omega)]
omit [Lim] in
@[simp] theorem Du (n:Nat):wrote n []=[]:=rfl
theorem Bb (n b:Nat) (l:List Nat) (hb:n<=b):wrote n (b::l)=wrote n l:=by
 show (Bool.rec (motive:=fun _=>List Nat) (wrote n l) (b::wrote n l) (Nat.blt b n):List Nat)=_
 have:Nat.blt b n=false:=by
  cases hx:Nat.blt b n with
  |false=>rfl
  |true=>
   have h3:b<n:=by simpa using hx
   omega
 rw [this]
theorem rd_eq (b:Nat):h.rd b=rdO (h.m.get b) h:=rfl
@[simp] theorem rdO_exact (c:List AV) (e:TypeId):rdO (.cells c e .exact) h=some c:=rfl
@[simp] theorem rdO_tip (c:List AV) (e:TypeId) (k:Nat):rdO (.cells c e (.Fz k)) h=some c:=rfl
@[simp] theorem wr_eq (b off:Nat) (vs:List AV):h.wr b off vs=wrO (h.m.get b) b off vs h:=rfl
@[simp] theorem wrO_exact (c:List AV) (e:TypeId) (b off:Nat) (vs:List AV):wrO (.cells c e .exact) b off vs h=wrL (lput c vs off) b e h:=rfl
@[simp] theorem wrO_tip (c:List AV) (e:TypeId) (k:Nat) (b off:Nat) (vs:List AV):wrO (.cells c e (.Fz k)) b off vs h=wrT (lput c vs off) (ctrN (h.m.get k)) k b e h:=rfl
@[simp] theorem wrL_some (c:List AV) (b:Nat) (e:TypeId):wrL (some c) b e h=.ok (h.put b (.cells c e .exact)):=rfl
@[simp] theorem wrT_some (c:List AV) (n k b:Nat) (e:TypeId):wrT (some c) (some n) k b e h=.ok ((h.put b (.cells c e (.Fz k))).put k (.ctr (n+1))):=rfl
@[simp] theorem ctrN_ctr (n:Nat):ctrN (.ctr n)=some n:=rfl
@[simp] theorem resH_ok:resH (.ok h)=.ok (.Bl []) h:=rfl
@[simp] theorem cellsOf_int (k:IntKind) (n:Int):cellsOf (.int k n)=some [.int k n]:=rfl
@[simp] theorem cellsOf_bool (b:Bool):cellsOf (.bool b)=some [.bool b]:=rfl
@[simp] theorem cellsOf_str (s:List Nat):cellsOf (.str s)=some [.str s]:=rfl
@[simp] theorem cellsOf_ifc (t:TypeId) (x:AV):cellsOf (.ifc t x)=some [.ifc t x]:=rfl
@[simp] theorem cellsOf_nifc:cellsOf .Bx=some [.Bx]:=rfl
@[simp] theorem cellsOf_nsl:cellsOf .Cb=some [.Cb]:=rfl
@[simp] theorem cellsOf_sl (b o l c z:Nat) (e:Bool):cellsOf (.sl b o l c z e)=some [.sl b o l c z e]:=rfl
@[simp] theorem cellsOf_ptr (b o:Nat):cellsOf (.ptr b o)=some [.ptr b o]:=rfl
@[simp] theorem cellsOf_agg (l:List AV):cellsOf (.agg l)=some l:=rfl
@[simp] theorem cellsOf_nfn:cellsOf .nfn=some [.nfn]:=rfl
@[simp] theorem cellsOf_fn (f:Fn) (a c:List AV):cellsOf (.fn f a c)=some [.fn f a c]:=rfl
@[simp] theorem oneB_int (k:IntKind) (n:Int):oneB (.int k n)=true:=rfl
@[simp] theorem oneB_bool (b:Bool):oneB (.bool b)=true:=rfl
@[simp] theorem oneB_str (s:List Nat):oneB (.str s)=true:=rfl
@[simp] theorem oneB_ifc (t:TypeId) (x:AV):oneB (.ifc t x)=true:=rfl
@[simp] theorem oneB_nifc:oneB .Bx=true:=rfl
@[simp] theorem oneB_nsl:oneB .Cb=true:=rfl
@[simp] theorem oneB_sl (b o l c z:Nat) (e:Bool):oneB (.sl b o l c z e)=true:=rfl
@[simp] theorem oneB_ptr (b o:Nat):oneB (.ptr b o)=true:=rfl
@[simp] theorem oneB_nfn:oneB .nfn=true:=rfl
@[simp] theorem oneB_fn (f:Fn) (a c:List AV):oneB (.fn f a c)=true:=rfl
@[simp] theorem oneB_nptr:oneB .nptr=true:=rfl
@[simp] theorem oneB_map (r:Nat):oneB (.map r)=true:=rfl
@[simp] theorem oneB_nmap:oneB .nmap=true:=rfl
@[simp] theorem cellsOf_nptr:cellsOf .nptr=some [.nptr]:=rfl
@[simp] theorem cellsOf_map (r:Nat):cellsOf (.map r)=some [.map r]:=rfl
@[simp] theorem cellsOf_nmap:cellsOf .nmap=some [.nmap]:=rfl
@[simp] theorem lallOne_nil:Bn []=true:=rfl
@[simp] theorem lallOne_cons (a:AV) (l:List AV):Bn (a::l)=(oneB a&&Bn l):=by
 show (Bool.rec (motive:=fun _=>Bool) false (Bn l) (oneB a):Bool)=_
 cases oneB a<;>rfl
@[simp] theorem llen_len (l:List AV):llen l=l.length:=Gt l
@[simp] theorem lget_get (l:List AV) (n:Nat):lget l n=l[n]?:=lget_eq l n
@[simp] theorem res1_some (v:AV):res1 (some v) h=.ok v h:=rfl
@[simp] theorem resAgg_some (c:List AV):resAgg (some c) h=.ok (.agg c) h:=rfl
@[simp] theorem ldL_one (c:List AV) (o:Nat):ldL (some none) c o h=res1 (lget c o) h:=rfl
@[simp] theorem ldL_many (n:Nat) (c:List AV) (o:Nat):ldL (some (some n)) c o h=resAgg (lcut c o n) h:=rfl
@[simp] theorem xLoad_ptr (i:Option (Option Nat)) (b o:Nat):Ad i (.ptr b o) h=ldC (rdO (h.m.get b) h) i o h:=rfl
@[simp] theorem ldC_some (c:List AV) (i:Option (Option Nat)) (o:Nat):ldC (some c) i o h=ldL i c o h:=rfl
@[simp] theorem xStore_ptr (n b o:Nat) (x:AV):Ao n (.ptr b o) x h=stC (cellsOf x) (some n) b o h:=rfl
@[simp] theorem stC_some (cs:List AV) (n b o:Nat):stC (some cs) (some n) b o h=if cs.length=n/\Bn cs=true then resH (h.wr b o cs) else .bad 26:=by
 show (Bool.rec (motive:=fun _=>OR) (.bad 26) (Bool.rec (motive:=fun _=>OR) (.bad 26) (resH (h.wr b o cs)) (Bn cs)) (Nat.beq (llen cs) n):OR)=_
 rw [Gt]
 by_cases h1:cs.length=n
 . rw [h1,Nat.beq_refl]
   cases h2:Bn cs<;>simp [h1]
 . rw [if_neg (fun hh=>h1 hh.1)]
   have:Nat.beq cs.length n=false:=by
    cases hb:Nat.beq cs.length n with
    |false=>rfl
    |true=>exact absurd (Nat.eq_of_beq_eq_true hb) h1
   rw [this]
@[simp] theorem xBox_agg (e:TypeId) (l:List AV):F0 e (.agg l) h=.ok (.ptr h.nx 0) (h.new (.cells l e .exact)):=rfl
@[simp] theorem mk_ok (o:AO) (v:AV):mk h o v=.ok v (h.new o):=rfl
@[simp] theorem Cz (b o d:Nat):Bg (.ptr b o) d h=.ok (.ptr b (o+d)) h:=rfl
@[simp] theorem xNil_ptr (b o:Nat):xNil (.ptr b o) h=.ok (.ptr b o) h:=rfl
@[simp] theorem exV_tup (l:List AV) (i:Nat):exV (.Bl l) i h=res1 (lget l i) h:=rfl
@[simp] theorem fillX_nil (cs:List AV):fillX [] cs=some cs:=rfl
noncomputable def fillC (off size:Nat) (rest:List (Nat × Nat × AV)) (cs:List AV) (x:Option (List AV)):Option (List AV):=
 match x with
 |some v=>if off+v.length<=cs.length/\v.length=size then fillX rest (cs.take off++v++cs.drop (off+v.length)) else none
 |none=>none
@[simp] theorem fillX_cons (off size:Nat) (x:AV) (rest:List (Nat × Nat × AV)) (cs:List AV):fillX ((off,size,x)::rest) cs=fillC off size rest cs (cellsOf x):=by
 show (match (some (off,size):Option (Nat × Nat)),cellsOf x with
  |some (off,size),some v=>match lput cs v off with|some cs'=>Bool.rec (motive:=fun _=>Option (List AV)) none (fillX rest cs') (Nat.beq (llen v) size)|none=>none
  |_,_=>none)=_
 unfold fillC
 cases cellsOf x with
 |none=>rfl
 |some v=>
  simp only [lput_eq,Gt]
  by_cases h1:off+v.length<=cs.length
  . by_cases h2:v.length=size
    . rw [if_pos h1,if_pos ⟨h1,h2⟩]
      simp [h2,Nat.beq_refl]
    . rw [if_pos h1,if_neg (fun hh=>h2 hh.2)]
      have:Nat.beq v.length size=false:=by
       cases hb:Nat.beq v.length size with
       |false=>rfl
       |true=>exact absurd (Nat.eq_of_beq_eq_true hb) h2
      simp [this]
  . rw [if_neg h1,if_neg (fun hh=>h1 hh.1)]
@[simp] theorem fillC_some (off size:Nat) (rest:List (Nat × Nat × AV)) (cs v:List AV):fillC off size rest cs (some v)=if off+v.length<=cs.length/\v.length=size then fillX rest (cs.take off++v++cs.drop (off+v.length)) else none:=rfl
@[simp] theorem xBuild_eq (z:List AV) (l:List (Nat × Nat × AV)):Dh z l h=resAgg (fillX l z) h:=rfl
noncomputable def bsl (x:Option (List AV)) (e:TypeId) (s n:Nat) (h:H):OR:=match x with
 |some cs=>.ok (.sl h.nx 0 n n s true) (h.new (.cells cs e .exact))
 |none=>.bad 20
@[simp] theorem bsl_some (cs:List AV) (e:TypeId) (s n:Nat):bsl (some cs) e s n h=.ok (.sl h.nx 0 n n s true) (h.new (.cells cs e .exact)):=rfl
@[simp] theorem xBuildSl_eq (e:TypeId) (s n:Nat) (z:List AV) (l:List (Nat × Nat × AV)):Bm e s n z l h=bsl (fillX l z) e s n h:=by
 unfold Bm bsl
 cases fillX l z<;>rfl
theorem ieq_dec (a b:Int):ieq a b=decide (a=b):=by rw [ieq_eq];by_cases hh:a=b<;>simp [hh]
@[simp] theorem xBin_eql (t:TypeId) (c:Bool) (a b:Int):Al P .eql t c (.int .i64 a) (.int .i64 b) h=.ok (.bool (decide (a=b))) h:=by rw [<- ieq_dec];rfl
@[simp] theorem xBin_neq (t:TypeId) (c:Bool) (a b:Int):Al P .neq t c (.int .i64 a) (.int .i64 b) h=.ok (.bool (!decide (a=b))) h:=by
 rw [<- ieq_dec];show OR.ok (.bool (bnot (ieq a b))) h=_;cases ieq a b<;>rfl
@[simp] theorem Fa (t:TypeId) (c:Bool) (a b:Int):Al P .lss t c (.int .i64 a) (.int .i64 b) h=.ok (.bool (decide (a<b))) h:=by rw [<- ilt_eq];rfl
@[simp] theorem xBin_gtr (t:TypeId) (c:Bool) (a b:Int):Al P .gtr t c (.int .i64 a) (.int .i64 b) h=.ok (.bool (decide (b<a))) h:=by rw [<- ilt_eq];rfl
@[simp] theorem xBin_leq (t:TypeId) (c:Bool) (a b:Int):Al P .leq t c (.int .i64 a) (.int .i64 b) h=.ok (.bool (decide (a<=b))) h:=by
 show OR.ok (.bool (bnot (ilt b a))) h=_
 rw [ilt_eq];by_cases hh:b<a
 . have:¬ a<=b:=by omega
   simp [hh,this,bnot]
 . have:a<=b:=by omega
   simp [hh,this,bnot]
@[simp] theorem xBin_geq (t:TypeId) (c:Bool) (a b:Int):Al P .geq t c (.int .i64 a) (.int .i64 b) h=.ok (.bool (decide (b<=a))) h:=by
 show OR.ok (.bool (bnot (ilt a b))) h=_
 rw [ilt_eq];by_cases hh:a<b
 . have:¬ b<=a:=by omega
   simp [hh,this,bnot]
 . have:b<=a:=by omega
   simp [hh,this,bnot]
@[simp] theorem xBin_add (t:TypeId) (c:Bool) (a b:Int):Al P .add t c (.int .i64 a) (.int .i64 b) h=.ok (.int .i64 (Ga .i64 (a+b))) h:=rfl
@[simp] theorem xBin_sub (t:TypeId) (c:Bool) (a b:Int):Al P .sub t c (.int .i64 a) (.int .i64 b) h=.ok (.int .i64 (Ga .i64 (a - b))) h:=rfl
@[simp] theorem xBin_mul (t:TypeId) (c:Bool) (a b:Int):Al P .mul t c (.int .i64 a) (.int .i64 b) h=.ok (.int .i64 (Ga .i64 (a * b))) h:=rfl
theorem Cg (n:Int) (h1:-9223372036854775808<=n) (h2:n<=9223372036854775807):Ga .i64 n=n:=by
 unfold Ga fits
 rw [ilt_eq,ilt_eq]
 have e1:¬ (n<IntKind.min .i64):=by show ¬ (n < -9223372036854775808);omega
 have e2:¬ (IntKind.max .i64<n):=by show ¬ ((9223372036854775807:Int)<n);omega
 rw [decide_eq_false e1,decide_eq_false e2]
theorem strEq_dec (a b:List Nat):strEq a b=decide (a=b):=by rw [strEq_eq];by_cases hh:a=b<;>simp [hh]
@[simp] theorem xBin_eqls (t:TypeId) (c:Bool) (a b:List Nat):Al P .eql t c (.str a) (.str b) h=.ok (.bool (decide (a=b))) h:=by rw [<- strEq_dec];rfl
@[simp] theorem xBin_neqs (t:TypeId) (c:Bool) (a b:List Nat):Al P .neq t c (.str a) (.str b) h=.ok (.bool (!decide (a=b))) h:=by
 rw [<- strEq_dec];show OR.ok (.bool (bnot (strEq a b))) h=_;cases strEq a b<;>rfl
@[simp] theorem xBin_lsss (t:TypeId) (c:Bool) (a b:List Nat):Al P .lss t c (.str a) (.str b) h=.ok (.bool (F9 a b)) h:=rfl
@[simp] theorem xBin_gtrs (t:TypeId) (c:Bool) (a b:List Nat):Al P .gtr t c (.str a) (.str b) h=.ok (.bool (F9 b a)) h:=rfl
@[simp] theorem xUn_not (b:Bool):xUn .not (.bool b) h=.ok (.bool (!b)) h:=by cases b<;>rfl
@[simp] theorem xUn_neg (n:Int):xUn .neg (.int .i64 n) h=.ok (.int .i64 (Ga .i64 (0 - n))) h:=rfl
@[simp] theorem xTA_ifc (z:AV) (t u:Nat) (x:AV):xTA z t true (.ifc u x) h=if u=t then .ok (.Bl [x,.bool true]) h else .ok (.Bl [z,.bool false]) h:=by
 show (Dz _ _ (Nat.beq u t):OR)=_
 by_cases hh:u=t
 . rw [if_pos hh,hh,Nat.beq_refl]
 . rw [if_neg hh]
   have:Nat.beq u t=false:=by
    cases hb:Nat.beq u t with
    |false=>rfl
    |true=>exact absurd (Nat.eq_of_beq_eq_true hb) hh
   rw [this]
noncomputable def resC (x:Option (List AV)) (o n:Nat) (h:H):OR:=match x with
 |some c=>if o+n<=c.length then .ok (.agg ((c.drop o).take n)) h else .bad 197
 |none=>.bad 197
@[simp] theorem resC_some (c:List AV) (o n:Nat):resC (some c) o n h=if o+n<=c.length then .ok (.agg ((c.drop o).take n)) h else .bad 197:=rfl
@[simp] theorem xRes_c (b o n:Nat):De [.c (some (some n)) (.ptr b o)] h=resC (rdO (h.m.get b) h) o n h:=by
 show (match (match (match h.rd b with|some c=>partI (some (some n)) c o|none=>none),(some []:Option (List AV)) with|some v,some l=>some (v::l)|_,_=>none) with|some l=>OR.ok (single l) h|none=>.bad 197)=_
 rw [rd_eq]
 cases rdO (h.m.get b) h with
 |none=>rfl
 |some c=>
  show (match (match (lcut c o n).map AV.agg,(some []:Option (List AV)) with|some v,some l=>some (v::l)|_,_=>none) with|some l=>OR.ok (single l) h|none=>.bad 197)=_
  rw [E1]
  by_cases hh:o+n<=c.length
  . rw [if_pos hh,resC_some,if_pos hh];rfl
  . rw [if_neg hh,resC_some,if_neg hh];rfl
@[simp] theorem cvV_fn (g:FuncId) (args:List AV):cvV (.fn (.func g) [] []) args P ctx h=if Ba P g=true then ctx.call g args h else aExt (extKind P g) args h:=by
 show (Bool.rec (motive:=fun _=>OR) (aExt (extKind P g) (lapp (lapp [] args) []) h) (ctx.call g (lapp (lapp [] args) []) h) (Ba P g):OR)=_
 rw [Dn,Dn]
 simp only [List.nil_append,List.append_nil]
 cases Ba P g<;>rfl
@[simp] theorem nat0_int (k:IntKind) (n:Int) (hn:0<=n):nat0 (.int k n)=some n.toNat:=by
 cases n with
 |ofNat m=>rfl
 |negSucc m=>omega
@[simp] theorem nat0_cast (k:IntKind) (n:Nat):nat0 (.int k (n:Int))=some n:=rfl
noncomputable def ixA (P:Program) (si:SI) (len:Nat) (cs:List AV) (n:Option Nat) (h:H):OR:=match n with
 |some n=>if n<len then res1 (partA P si.e cs (n * si.s)) h else .bad 95
 |none=>.bad 97
@[simp] theorem ixA_some (si:SI) (len:Nat) (cs:List AV) (n:Nat):ixA P si len cs (some n) h=if n<len then res1 (partA P si.e cs (n * si.s)) h else .bad 95:=rfl
@[simp] theorem xIx_arr (len:Nat) (si:SI) (cs:List AV) (i:AV):xIx P (.arr len si) (.agg cs) i h=ixA P si len cs (nat0 i) h:=by
 unfold xIx ixA
 cases nat0 i with
 |none=>rfl
 |some n=>
  show (Dz (.bad 95) (res1 (partA P si.e cs (n * si.s)) h) (Nat.blt n len):OR)=if n<len then res1 (partA P si.e cs (n * si.s)) h else .bad 95
  by_cases hh:n<len
  . rw [if_pos hh,show Nat.blt n len=true by simpa using hh]
  . rw [if_neg hh,show Nat.blt n len=false by cases hb:Nat.blt n len with|false=>rfl|true=>exact absurd (by simpa using hb) hh]
@[simp] theorem partI_one (cs:List AV) (o:Nat):partI (some none) cs o=lget cs o:=rfl
@[simp] theorem partA_eq (t:TypeId) (cs:List AV) (o:Nat):partA P t cs o=partI (Fh P t) cs o:=rfl
noncomputable def insM (r:Nat) (es:Option (List (AV × AV))) (h:H):OR:=match es with|some es'=>.ok (.Bl []) (h.put r (.map es'))|none=>.bad 100
@[simp] theorem insM_some (r:Nat) (es:List (AV × AV)):insM r (some es) h=.ok (.Bl []) (h.put r (.map es)):=rfl
noncomputable def insO (P:Program) (kt:TypeId) (k x:AV) (r:Nat) (o:AO) (h:H):OR:=match o with
 |.map es=>insM r (if E0 P kt k=true then mset (Gh P kt k) k x es else none) h
 |_=>.bad 101
@[simp] theorem insO_map (kt:TypeId) (k x:AV) (r:Nat) (es:List (AV × AV)):insO P kt k x r (.map es) h=insM r (if E0 P kt k=true then mset (Gh P kt k) k x es else none) h:=rfl
@[simp] theorem xIns_map (kt:TypeId) (z:AV) (r:Nat) (k x:AV):xIns P kt z (.map r) k x h=insO P kt k x r (h.m.get r) h:=by
 show (match h.m.get r with
  |.map es=>match Bool.rec (motive:=fun _=>Option (List (AV × AV))) none (mset (Gh P kt k) k x es) (E0 P kt k) with|some es'=>OR.ok (.Bl []) (h.put r (.map es'))|none=>.bad 100
  |_=>.bad 101)=_
 cases h.m.get r with
 |map es=>
  rw [insO_map]
  cases E0 P kt k with
  |true=>rfl
  |false=>rfl
 |_=>rfl
noncomputable def lkM (z:AV) (ok:Bool) (x:Option (Option AV)) (h:H):OR:=match x with
 |some (some v)=>.ok (if ok=true then .Bl [v,.bool true] else v) h
 |some none=>.ok (if ok=true then .Bl [z,.bool false] else z) h
 |none=>.bad 98
@[simp] theorem lkM_some (z v:AV) (ok:Bool):lkM z ok (some (some v)) h=.ok (if ok=true then .Bl [v,.bool true] else v) h:=rfl
@[simp] theorem lkM_none (z:AV) (ok:Bool):lkM z ok (some none) h=.ok (if ok=true then .Bl [z,.bool false] else z) h:=rfl
noncomputable def lkO (P:Program) (kt:TypeId) (z:AV) (ok:Bool) (k:AV) (o:AO) (h:H):OR:=match o with
 |.map es=>lkM z ok (if E0 P kt k=true then mfind (Gh P kt k) es else none) h
 |_=>.bad 99
@[simp] theorem lkO_map (kt:TypeId) (z k:AV) (ok:Bool) (es:List (AV × AV)):lkO P kt z ok k (.map es) h=lkM z ok (if E0 P kt k=true then mfind (Gh P kt k) es else none) h:=rfl
@[simp] theorem xLk_map (kt:TypeId) (z:AV) (ok:Bool) (r:Nat) (k:AV):xLk P kt z ok (.map r) k h=lkO P kt z ok k (h.m.get r) h:=by
 show (match (some ⟨kt,z⟩:Option MI),(match h.m.get r with|.map es=>some es|_=>none:Option (List (AV × AV))) with
  |some mi,some es=>match Bool.rec (motive:=fun _=>Option (Option AV)) none (mfind (Gh P mi.kt k) es) (E0 P mi.kt k) with
   |some (some v)=>OR.ok (Bool.rec (motive:=fun _=>AV) v (.Bl [v,.bool true]) ok) h
   |some none=>.ok (Bool.rec (motive:=fun _=>AV) mi.z (.Bl [mi.z,.bool false]) ok) h
   |none=>.bad 98
  |_,_=>.bad 99)=_
 cases h.m.get r with
 |map es=>
  rw [lkO_map]
  show (match Bool.rec (motive:=fun _=>Option (Option AV)) none (mfind (Gh P kt k) es) (E0 P kt k) with
   |some (some v)=>OR.ok (Bool.rec (motive:=fun _=>AV) v (.Bl [v,.bool true]) ok) h
   |some none=>.ok (Bool.rec (motive:=fun _=>AV) z (.Bl [z,.bool false]) ok) h
   |none=>.bad 98)=_
  cases E0 P kt k with
  |true=>
   cases mfind (Gh P kt k) es with
   |none=>rfl
   |some x=>cases x<;>cases ok<;>rfl
  |false=>rfl
 |_=>rfl
theorem keyChk_int {t:TypeId} (ht:tk P t=.int) (x:AV):E0 P t x=true:=by unfold E0;rw [ht]
theorem keyEq_int {t:TypeId} (ht:tk P t=.int) (a b:Int):Gh P t (.int .i64 a) (.int .i64 b)=some (decide (a=b)):=by
 have h1:aeq P 3 t (.int .i64 a) (.int .i64 b)=some (decide (a=b)):=by
  show Dm P (aeq P 2) t (.int .i64 a) (.int .i64 b)=_
  unfold Dm
  rw [ht,<- ieq_dec]
  rfl
 unfold Gh
 rw [h1]
 by_cases hh:a=b
 . simp only [hh,decide_true]
   unfold keySame
   rw [ht]
 . simp only [hh,decide_false]
@[simp] theorem lnL_nil:Ft .Cb h=.ok (.int .i64 0) h:=rfl
@[simp] theorem lnL_sl (b o l c z:Nat) (e:Bool):Ft (.sl b o l c z e) h=.ok (.int .i64 (l:Int)) h:=rfl
@[simp] theorem lnS_str (s:List Nat):lnS (.str s) h=.ok (.int .i64 (s.length:Int)) h:=by show OR.ok (.int .i64 (.ofNat (slen s))) h=_;rw [slen_eq];rfl
theorem xIA_sl (s b o l c z:Nat) (e:Bool) (n:Nat) (hn:n<l):E3 s (.sl b o l c z e) (.int .i64 (n:Int)) h=.ok (.ptr b (o+n * s)) h:=by
 show (Bool.rec (motive:=fun _=>OR) (.bad 88) (.ok (.ptr b (Nat.add o (Nat.mul n s))) h) (Nat.blt n l):OR)=_
 rw [show Nat.blt n l=true by simpa using hn]
 rfl
def Comes (r:OR) (Q:AV->H->Prop):Prop:=∃ v h',r=.ok v h'/\Q v h'
variable {Q R:AV->H->Prop} {k:AV->H->OR} {r:OR} {a b:OR}
theorem comes_bindQ_noLog (hc:Comes (k v (Ab h)) Q):Comes (Aj h0 (.ok v (Ab h)) k) Q:=by rw [bindQ_noLog];exact hc
theorem comes_bindQ_ok (hq:wrote h0.nx h1.lg=[]) (hc:Comes (k v h1) Q):Comes (Aj h0 (.ok v h1) k) Q:=by rw [bindQ_ok v h0 h1 k hq];exact hc
theorem comes_cond {c:Bool} (ha:c=true->Comes a Q) (hb:c=false->Comes b Q):Comes (Ah (.bool c) a b) Q:=by
 cases c
 . exact hb rfl
 . exact ha rfl
theorem comes_want_t {c:Bool} (ht:c=true->Comes (Aa r k) Q) (hf:c=false->Comes (k (.Bl []) h) Q):Comes (Aa (Ac (.bool c) true r h) k) Q:=by
 cases c
 . exact hf rfl
 . exact ht rfl
theorem comes_want_f {c:Bool} (ht:c=true->Comes (k (.Bl []) h) Q) (hf:c=false->Comes (Aa r k) Q):Comes (Aa (Ac (.bool c) false r h) k) Q:=by
 cases c
 . exact hf rfl
 . exact ht rfl
theorem comes_wantQ_t {c:Bool} (ht:c=true->Comes (Aj h0 r k) Q) (hf:c=false->Comes (Aj h0 (.ok (.Bl []) h) k) Q):Comes (Aj h0 (Ac (.bool c) true r h) k) Q:=by
 cases c
 . exact hf rfl
 . exact ht rfl
theorem comes_wantQ_f {c:Bool} (ht:c=true->Comes (Aj h0 (.ok (.Bl []) h) k) Q) (hf:c=false->Comes (Aj h0 r k) Q):Comes (Aj h0 (Ac (.bool c) false r h) k) Q:=by
 cases c
 . exact hf rfl
 . exact ht rfl
@[simp] theorem lget_zero (a:AV) (l:List AV):(a::l)[0]?=some a:=rfl
@[simp] theorem lget_succ (a:AV) (l:List AV) (n:Nat):(a::l)[n+1]?=l[n]?:=rfl
theorem isR (hc:Comes (Aa r k) Q):Comes (Aa r k) Q:=hc
theorem isC (hc:Comes (Ah v a b) Q):Comes (Ah v a b) Q:=hc
structure Small (n:Nat) (h h':H):Prop where
 nx:h.nx<=h'.nx/\h'.nx<=h.nx+n
 lg:∀ x∈h'.lg,x∈h.lg\/h.nx<=x
theorem Small.refl (n:Nat) (h:H):Small n h h:=⟨⟨Nat.le_refl _,Nat.le_add_right _ _⟩,fun _ hx=>.inl hx⟩
def Out (n:Nat) (h:H) (u:AV):AV->H->Prop:=fun v h'=>v=u/\Small n h h'
theorem At {n:Nat} {u:AV} (hv:v=u) (h1:h0.nx<=h.nx) (h2:h.nx<=h0.nx+n) (h3:∀ x∈h.lg,x∈h0.lg\/h0.nx<=x):Comes (.ok v h) (Out n h0 u):=⟨v,h,rfl,hv,⟨h1,h2⟩,h3⟩
end Go.Ev.Sx
namespace Go.Ev.Sx
open Go.Ev
variable [Lim]
variable {P:Program} {ctx:Ae} {h h0 h1 h2:H} {v x y:AV} {n m:Nat}
structure Ext (n:Nat) (h h':H):Prop where
 lo:h.nx<=h'.nx
 hi:h'.nx<=h.nx+n
 old:∀ b,b<h.nx->h'.m.get b=h.m.get b
 lg:∀ x∈h'.lg,x∈h.lg\/h.nx<=x
theorem Ext.refl (n:Nat) (h:H):Ext n h h:=⟨Nat.le_refl _,Nat.le_add_right _ _,fun _ _=>rfl,fun _ hx=>.inl hx⟩
theorem Ext.small (e:Ext n h h1):Small n h h1:=⟨⟨e.lo,e.hi⟩,e.lg⟩
theorem Ext.trans (e:Ext n h h1) (e':Ext m h1 h2):Ext (n+m) h h2:=
 ⟨Nat.le_trans e.lo e'.lo,by have:=e.hi;have:=e'.hi;omega,fun b hb=>by rw [e'.old b (Nat.lt_of_lt_of_le hb e.lo),e.old b hb],fun x hx=>by
  rcases e'.lg x hx with h3|h3
  . exact e.lg x h3
  . exact .inr (Nat.le_trans e.lo h3)⟩
theorem Ext.mono (e:Ext n h h1) (hm:n<=m):Ext m h h1:=⟨e.lo,by have:=e.hi;omega,e.old,e.lg⟩
theorem Ext.new (e:Ext n h h1) (o:AO) (hl:h1.nx<Bh):Ext (n+1) h (h1.new o):=
 ⟨by show h.nx<=h1.nx+1;have:=e.lo;omega,by show h1.nx+1<=_;have:=e.hi;omega,fun b hb=>by rw [new_get_ne o b hl (by have:=e.lo;omega) (by have:=e.lo;omega),e.old b hb],e.lg⟩
theorem Ext.put (e:Ext n h h1) (c:Nat) (o:AO) (hc:h.nx<=c) (hl:c<Bh):Ext n h (h1.put c o):=
 ⟨e.lo,e.hi,fun b hb=>by rw [C3 c o b hl (by omega) (by omega),e.old b hb],fun x hx=>by
  rcases List.mem_cons.1 hx with rfl|hx
  . exact .inr hc
  . exact e.lg x hx⟩
theorem Ext.Ab (e:Ext n h h1):Ext n h (Ab h1):=⟨e.lo,e.hi,e.old,fun x hx=>by cases hx⟩
def B3 (n:Nat) (h:H) (Q:AV->H->Prop) (r:OR):Prop:=∃ v h',r=.ok v h'/\Ext n h h'/\Q v h'
def readable:CK->Prop
 |.exact=>True
 |.Fz _=>True
 |_=>False
theorem C4 {c:List AV} {e:TypeId} {k:CK} (hk:readable k):rdO (.cells c e k) h=some c:=by cases k<;>first|rfl|cases hk
structure SlAt (s:Nat) (h:H) (v:AV) (len:Nat) (c:List AV):Prop where
 at':(len=0/\c=[]/\v=.Cb)\/∃ b off cap ex cs e k,v=.sl b off len cap s ex/\len<=cap/\h.m.get b=.cells cs e k/\readable k/\b<h.nx/\off+len * s<=cs.length/\(cs.drop off).take (len * s)=c
theorem SlAt.ext {s len:Nat} {c:List AV} (hs:SlAt s h v len c) (e:Ext n h h1):SlAt s h1 v len c:=by
 rcases hs.at' with h3|⟨b,off,cap,ex,cs,e',k,q1,q2,q3,q4,q5,q6⟩
 . exact ⟨.inl h3⟩
 . exact ⟨.inr ⟨b,off,cap,ex,cs,e',k,q1,q2,by rw [e.old b q5];exact q3,q4,Nat.lt_of_lt_of_le q5 e.lo,q6⟩⟩
theorem SlAt.len {s len:Nat} {c:List AV} (hs:SlAt s h v len c):Ft v h1=.ok (.int .i64 (len:Int)) h1:=by
 rcases hs.at' with ⟨rfl,_,rfl⟩|⟨b,off,cap,ex,cs,e',k,rfl,_⟩<;>rfl
theorem SlAt.clen {s len:Nat} {c:List AV} (hs:SlAt s h v len c):c.length=len * s:=by
 rcases hs.at' with ⟨rfl,rfl,rfl⟩|⟨b,off,cap,ex,cs,e',k,q1,q2,q3,q4,q5,q6,q7⟩
 . simp
 . rw [<- q7,List.length_take,List.length_drop];omega
theorem SlAt.src {s len:Nat} {c:List AV} (hs:SlAt s h v len c):srcOf h s v=some (len,c):=by
 rcases hs.at' with ⟨rfl,rfl,rfl⟩|⟨b,off,cap,ex,cs,e',k,rfl,q2,q3,q4,q5,q6,q7⟩
 . rfl
 . show (match h.rd b with|some c=>(lcut c off (len * s)).map fun l=>(len,l)|none=>none)=_
   rw [rd_eq,q3,C4 q4]
   simp only [E1]
   rw [if_pos q6,q7]
   rfl
theorem SlAt.ia {s len:Nat} {c:List AV} (hs:SlAt s h v len c) {i:Nat} (hi:i<len):∃ b o cs e k,(∀ h1,E3 s v (.int .i64 (i:Int)) h1=.ok (.ptr b o) h1)/\h.m.get b=.cells cs e k/\readable k/\b<h.nx/\o+s<=cs.length/\(cs.drop o).take s=(c.drop (i * s)).take s:=by
 rcases hs.at' with ⟨rfl,rfl,rfl⟩|⟨b,off,cap,ex,cs,e',k,rfl,q2,q3,q4,q5,q6,q7⟩
 . omega
 . have h5:i * s+s<=len * s:=by have:=Nat.mul_le_mul_right s (show i+1<=len by omega);rw [Nat.add_mul,Nat.one_mul] at this;exact this
   refine ⟨b,off+i * s,cs,e',k,fun h1=>xIA_sl s b off len cap s ex i hi,q3,q4,q5,by omega,?_⟩
   rw [<- q7,List.drop_take,List.take_take,List.drop_drop]
   congr 1
   omega
theorem load_many {b o n:Nat} {cs:List AV} {e:TypeId} {k:CK} (hg:h.m.get b=.cells cs e k) (hk:readable k) (ho:o+n<=cs.length):Ad (some (some n)) (.ptr b o) h=.ok (.agg ((cs.drop o).take n)) h:=by
 rw [xLoad_ptr,hg,C4 hk,ldC_some,ldL_many,E1,if_pos ho]
 rfl
theorem Da {b o:Nat} {cs:List AV} {e:TypeId} {k:CK} (hg:h.m.get b=.cells cs e k) (hk:readable k) {x:AV} (ho:cs[o]?=some x):Ad (some none) (.ptr b o) h=.ok x h:=by
 rw [xLoad_ptr,hg,C4 hk,ldC_some,ldL_one,lget_get,ho]
 rfl
structure TipAt (s:Nat) (lo:Nat) (et:TypeId) (h:H) (v:AV) (len:Nat) (c:List AV):Prop where
 at':∃ b k st,v=.sl b 0 len len s false/\h.m.get b=.cells c et (.Fz k)/\h.m.get k=.ctr st/\lo<=b/\lo<=k/\b<h.nx/\k<h.nx/\b≠k
 clen:c.length=len * s
theorem TipAt.sl {s lo len:Nat} {et:TypeId} {c:List AV} (ht:TipAt s lo et h v len c):SlAt s h v len c:=by
 obtain ⟨b,k,st,q1,q2,q3,q4,q5,q6,q7⟩:=ht.at'
 exact ⟨.inr ⟨b,0,len,false,c,et,.Fz k,q1,Nat.le_refl _,q2,trivial,q6,by rw [ht.clen];omega,by rw [List.drop_zero,<- ht.clen,List.take_length]⟩⟩
theorem TipAt.ext {s lo len:Nat} {et:TypeId} {c:List AV} (ht:TipAt s lo et h v len c) (e:Ext n h h1):TipAt s lo et h1 v len c:=by
 obtain ⟨b,k,st,q1,q2,q3,q4,q5,q6,q7,q8⟩:=ht.at'
 exact ⟨⟨b,k,st,q1,by rw [e.old b q6];exact q2,by rw [e.old k q7];exact q3,q4,q5,Nat.lt_of_lt_of_le q6 e.lo,Nat.lt_of_lt_of_le q7 e.lo,q8⟩,ht.clen⟩
theorem Fu (n:Nat):Gq n=decide (n<1000000000000):=by
 show Nat.blt n 1000000000000=_
 cases hb:Nat.blt n 1000000000000 with
 |true=>
  have:n<1000000000000:=by simpa using hb
  simp [this]
 |false=>
  have:¬ n<1000000000000:=fun hh=>by rw [show Nat.blt n 1000000000000=true by simpa using hh] at hb;cases hb
  simp [this]
theorem app_nil {s bytes len:Nat} {et:TypeId} {c:List AV} (hs:SlAt s h y len c) (hlen:0<len) (hb:len * (bytes+1)<1000000000000) (h1:Bn c=true):
 xApp et s bytes .Cb y h=.ok (.sl (h.nx+1) 0 len len s false) ((h.new (.ctr 0)).new (.cells c et (.Fz h.nx))):=by
 show (match srcOf h s y with
  |some (n,new)=>Dz (Dz (.bad 120) (Dz (.bad 120) (grow h et s new n) (Bn new)) (Gq (n * (bytes+1)))) (.ok .Cb h) (Nat.beq n 0)
  |none=>.bad 123)=_
 rw [hs.src]
 have h2:Nat.beq len 0=false:=by cases len with|zero=>omega|succ k=>rfl
 simp only [h2,h1,Fu,decide_eq_true hb]
 rfl
theorem app_nil_tip {s bytes len lo:Nat} {et:TypeId} {c:List AV} (hs:SlAt s h y len c) (hlen:0<len) (hb:len * (bytes+1)<1000000000000) (h1:Bn c=true) (hl:h.nx+2<=Bh) (hlo:lo<=h.nx):
 B3 2 h (fun v h'=>TipAt s lo et h' v len c) (xApp et s bytes .Cb y h):=by
 refine ⟨_,_,app_nil hs hlen hb h1,((Ext.refl 0 h).new _ (by omega)).new _ (by show h.nx+1<Bh;omega),⟨⟨h.nx+1,h.nx,0,rfl,?_,?_,by omega,hlo,by show h.nx+1<h.nx+2;omega,by show h.nx<h.nx+2;omega,by omega⟩,hs.clen⟩⟩
 . exact Az (h:=h.new (.ctr 0)) _ (by show h.nx+1<Bh;omega)
 . rw [new_get_ne (h:=h.new (.ctr 0)) _ h.nx (by show h.nx+1<Bh;omega) (by omega) (by show h.nx≠h.nx+1;omega)]
   exact Az _ (by omega)
theorem app_tip_run {s bytes len len' b k st:Nat} {et:TypeId} {c c':List AV} (q2:h.m.get b=.cells c et (.Fz k)) (q3:h.m.get k=.ctr st) (hcl:c.length=len * s) (hs:SlAt s h y len' c') (hlen:0<len') (hb:(len+len') * (bytes+1)<1000000000000) (h1:Bn c'=true):
 xApp et s bytes (.sl b 0 len len s false) y h=.ok (.sl h.nx 0 (len+len') (len+len') s false) (((h.put b (.cells c et (.old k st))).put k (.ctr st)).new (.cells (c++c') et (.Fz k))):=by
 show (match srcOf h s y with
  |some (n,new)=>Dz (.bad 121) (Dz (.bad 121) (Dz (.bad 121) (appSl ⟨et,s,bytes⟩ b 0 len len s false n new h) (Nat.beq s s)) (Bn new)) (Gq ((len+n) * (bytes+1)))
  |none=>.bad 123)=_
 rw [hs.src]
 have h3:Nat.ble (Nat.add len len') len=false:=by
  cases hx:Nat.ble (Nat.add len len') len with
  |false=>rfl
  |true=>
   have:len+len'<=len:=Nat.le_of_ble_eq_true hx
   omega
 simp only [h1,Fu,decide_eq_true hb,Nat.beq_refl]
 show (Dz _ _ (Nat.ble (Nat.add len len') len):OR)=_
 rw [h3]
 show appTip ⟨et,s,bytes⟩ b 0 len (Nat.add len len') c' h=_
 unfold appTip
 rw [q2]
 simp only [q3,ctrN_ctr,E1,hcl,Nat.zero_add,Nat.le_refl,if_true,Gt,Nat.beq_refl,Dn]
 rfl
theorem app_tip {s bytes len len' lo:Nat} {et:TypeId} {c c':List AV} (ht:TipAt s lo et h x len c) (hs:SlAt s h y len' c') (hlen:0<len') (hb:(len+len') * (bytes+1)<1000000000000) (h1:Bn c'=true) (hl:h.nx+1<=Bh) (hlo:h0.nx<=lo) (he:Ext n h0 h):
 B3 (n+1) h0 (fun v h'=>TipAt s lo et h' v (len+len') (c++c')) (xApp et s bytes x y h):=by
 obtain ⟨b,k,st,rfl,q2,q3,q4,q5,q6,q7,q8⟩:=ht.at'
 have hrun:xApp et s bytes (.sl b 0 len len s false) y h=.ok (.sl h.nx 0 (len+len') (len+len') s false) (((h.put b (.cells c et (.old k st))).put k (.ctr st)).new (.cells (c++c') et (.Fz k))):=by
  show (match srcOf h s y with
   |some (n,new)=>Dz (.bad 121) (Dz (.bad 121) (Dz (.bad 121) (appSl ⟨et,s,bytes⟩ b 0 len len s false n new h) (Nat.beq s s)) (Bn new)) (Gq ((len+n) * (bytes+1)))
   |none=>.bad 123)=_
  rw [hs.src]
  have h3:Nat.ble (Nat.add len len') len=false:=by
   cases hx:Nat.ble (Nat.add len len') len with
   |false=>rfl
   |true=>
    have:len+len'<=len:=Nat.le_of_ble_eq_true hx
    omega
  simp only [h1,Fu,decide_eq_true hb,Nat.beq_refl]
  show (Dz _ _ (Nat.ble (Nat.add len len') len):OR)=_
  rw [h3]
  show appTip ⟨et,s,bytes⟩ b 0 len (Nat.add len len') c' h=_
  unfold appTip
  rw [q2]
  simp only [q3,ctrN_ctr,E1,ht.clen,Nat.zero_add,Nat.le_refl,if_true,Gt,Nat.beq_refl,Dn]
  rfl
 have e1:Ext n h0 ((h.put b (.cells c et (.old k st))).put k (.ctr st)):=(he.put b _ (by omega) (by omega)).put k _ (by omega) (by omega)
 refine ⟨_,_,hrun,e1.new _ (by show h.nx<Bh;omega),⟨⟨h.nx,k,st,rfl,?_,?_,?_,q5,by show h.nx<h.nx+1;omega,by show k<h.nx+1;omega,by omega⟩,by rw [List.length_append,ht.clen,hs.clen,Nat.add_mul]⟩⟩
 . exact Az (h:=(h.put b (.cells c et (.old k st))).put k (.ctr st)) _ (by show h.nx<Bh;omega)
 . rw [new_get_ne (h:=(h.put b (.cells c et (.old k st))).put k (.ctr st)) _ k (by show h.nx<Bh;omega) (by omega) (by show k≠h.nx;omega)]
   exact Dp k _ (by omega)
 . omega
theorem gets_bind {y:Nat} {Q R:AV->H->Prop} {r:OR} {k:AV->H->OR} (he:Ext n h0 h) (hr:B3 m h R r) (hk:∀ v h1,Ext (n+m) h0 h1->Ext m h h1->R v h1->B3 y h0 Q (k v h1)):B3 y h0 Q (Aa r k):=by
 obtain ⟨v,h1,rfl,e,hq⟩:=hr
 exact hk v h1 (he.trans e) e hq
theorem Ag {y:Nat} {Q:AV->H->Prop} {r:OR} {k:AV->H->OR} (hr:r=.ok v h) (hk:B3 y h0 Q (k v h)):B3 y h0 Q (Aa r k):=by rw [hr];exact hk
theorem Bs {Q:AV->H->Prop} (he:Ext n h0 h) (hn:n<=m) (hq:Q v h):B3 m h0 Q (.ok v h):=⟨v,h,rfl,he.mono hn,hq⟩
theorem B3.mono {Q R:AV->H->Prop} {r:OR} (hr:B3 n h0 Q r) (hn:n<=m) (hq:∀ v h,Q v h->R v h):B3 m h0 R r:=by
 obtain ⟨v,h1,rfl,e,q⟩:=hr
 exact ⟨v,h1,rfl,e.mono hn,hq v h1 q⟩
theorem B1 (n b:Nat) (l:List Nat) (hb:b<n):wrote n (b::l)=b::wrote n l:=by
 show (Bool.rec (motive:=fun _=>List Nat) (wrote n l) (b::wrote n l) (Nat.blt b n):List Nat)=_
 rw [show Nat.blt b n=true by simpa using hb]
@[simp] theorem nilN_nil':nilN []=true:=rfl
@[simp] theorem nilN_cons (a:Nat) (l:List Nat):nilN (a::l)=false:=rfl
@[simp] theorem effOk_eq (l:List EF):effOk l=effGo l l:=rfl
@[simp] theorem effGo_nil (all:List EF):effGo all []=true:=rfl
@[simp] theorem effGo_quiet (all l:List EF) (b p:Nat) (r:RS) (h:H) (n:Nat):effGo all (⟨b,p,[],r,h,n⟩::l)=effGo all l:=rfl
@[simp] theorem effGo_wr (all l:List EF) (b p x:Nat) (w:List Nat) (r:RS) (h:H) (n:Nat):effGo all (⟨b,p,x::w,r,h,n⟩::l)=(Fm ⟨b,p,x::w,r,h,n⟩ all&&effGo all l):=by
 show (Bool.rec (motive:=fun _=>Bool) false (effGo all l) (Fm ⟨b,p,x::w,r,h,n⟩ all):Bool)=_
 cases Fm ⟨b,p,x::w,r,h,n⟩ all<;>rfl
@[simp] theorem E4 (e:EF):Fm e []=true:=rfl
@[simp] theorem Ek (e a:EF) (l:List EF):Fm e (a::l)=(calm1 e a&&Fm e l):=by
 show (Bool.rec (motive:=fun _=>Bool) false (Fm e l) (calm1 e a):Bool)=_
 cases calm1 e a<;>rfl
theorem disj_nil:∀ w:List Nat,disj w []=true
 |[]=>rfl
 |x::w=>by
  show (Bool.rec (motive:=fun _=>Bool) (disj w []) false (memN x []):Bool)=true
  exact disj_nil w
theorem outside_same (n:Nat):∀ w:List Nat,outside w n n=true
 |[]=>rfl
 |x::w=>by
  show (Bool.rec (motive:=fun _=>Bool) (outside w n n) false (Bool.rec (motive:=fun _=>Bool) false (Nat.blt x n) (Nat.ble n x)):Bool)=true
  have ih:=outside_same n w
  cases h1:Nat.ble n x with
  |false=>exact ih
  |true=>
   have h2:n<=x:=Nat.le_of_ble_eq_true h1
   have h3:Nat.blt x n=false:=by
    cases hx:Nat.blt x n with
    |false=>rfl
    |true=>
     have:x<n:=by simpa using hx
     omega
   rw [h3]
   exact ih
@[simp] theorem Fv (e:EF) (b p:Nat) (h:H):calm1 e ⟨b,p,[],.none,h,h.nx⟩=true:=by
 show (Bool.rec (motive:=fun _=>Bool) true (Bool.rec (motive:=fun _=>Bool) (Bool.rec (motive:=fun _=>Bool) false (Bool.rec (motive:=fun _=>Bool) false (outside e.w h.nx h.nx) (clear .none e.w h)) (disj e.w [])) true (Nat.beq e.bit b)) (zeroN (Nat.lor (Nat.land e.pr b) (Nat.land p e.bit))):Bool)=true
 rw [disj_nil,outside_same]
 cases zeroN (Nat.lor (Nat.land e.pr b) (Nat.land p e.bit))<;>cases Nat.beq e.bit b<;>rfl
theorem B4 (eb ep:Nat) (ew:List Nat) (er:RS) (eh:H) (en:Nat) (ab ap:Nat) (aw:List Nat) (ar:RS) (ah:H) (an:Nat) (ho:zeroN (Nat.lor (Nat.land ep ab) (Nat.land ap eb))=false):calm1 ⟨eb,ep,ew,er,eh,en⟩ ⟨ab,ap,aw,ar,ah,an⟩=true:=by
 show (Bool.rec (motive:=fun _=>Bool) true _ (zeroN (Nat.lor (Nat.land ep ab) (Nat.land ap eb))):Bool)=true
 rw [ho]
theorem Br (eb ep:Nat) (ew:List Nat) (er:RS) (eh:H) (en:Nat) (ap:Nat) (aw:List Nat) (ar:RS) (ah:H) (an:Nat):calm1 ⟨eb,ep,ew,er,eh,en⟩ ⟨eb,ap,aw,ar,ah,an⟩=true:=by
 show (Bool.rec (motive:=fun _=>Bool) true (Bool.rec (motive:=fun _=>Bool) _ true (Nat.beq eb eb)) (zeroN (Nat.lor (Nat.land ep eb) (Nat.land ap eb))):Bool)=true
 rw [Nat.beq_refl]
 cases zeroN (Nat.lor (Nat.land ep eb) (Nat.land ap eb))<;>rfl
@[simp] theorem Bk (lg:List Nat):Ec [] lg=lg:=rfl
@[simp] theorem napp_eq (x y:List Nat):napp x y=x++y:=by
 induction x with
 |nil=>rfl
 |cons a x ih=>show a::napp x y=_;rw [ih];rfl
@[simp] theorem A8 (e:EF) (l:List EF) (lg:List Nat):Ec (e::l) lg=e.w++Ec l lg:=by rw [<- napp_eq];rfl
theorem drEnd_ok {lg:List Nat} {efs:List EF} {k:H->OR} (he:effOk efs=true):F4 lg efs h k=k (Ap (Ec efs lg) h):=by
 show (Bool.rec (motive:=fun _=>OR) (.bad 183) (k (Ap (Ec efs lg) h)) (effOk efs):OR)=_
 rw [he]
theorem gets_drEnd {y:Nat} {Q:AV->H->Prop} {lg:List Nat} {efs:List EF} {k:H->OR} (he:effOk efs=true) (hk:B3 y h0 Q (k (Ap (Ec efs lg) h))):B3 y h0 Q (F4 lg efs h k):=by rw [drEnd_ok he];exact hk
theorem Ext.Ap (e:Ext n h h1) (lg:List Nat) (hlg:∀ x∈lg,x∈h.lg\/h.nx<=x):Ext n h (Ap lg h1):=⟨e.lo,e.hi,e.old,hlg⟩
theorem slSl_ok {b off cap sz l u:Nat} {ex:Bool} (h1:l<=u) (h2:u<=cap) (h3:l<cap):slSl b off cap sz ex l u h=.ok (.sl b (off+l * sz) (u - l) (cap - l) sz ex) h:=by
 show (Bool.rec (motive:=fun _=>OR) (.bad 74) (Bool.rec (motive:=fun _=>OR) (.bad 74) (Bool.rec (motive:=fun _=>OR) _ (.ok (.sl b (off+l * sz) (Nat.sub u l) (Nat.sub cap l) sz ex) h) (Nat.blt l cap)) (Nat.ble u cap)) (Nat.ble l u):OR)=_
 rw [show Nat.ble l u=true by simpa using h1,show Nat.ble u cap=true by simpa using h2,show Nat.blt l cap=true by simpa using h3]
 rfl
theorem xSl_lo {t e:TypeId} {b off len cap s bytes:Nat} {ex:Bool} (hx:Gn P t=.sl ⟨e,s,bytes⟩) (l:Nat):xSl P t (.sl b off len cap s ex) (some (.int .i64 (l:Int))) none h=slSl b off cap s ex l len h:=by
 have e0:vL (ev (.tmp 0) (fr As [(0,.sl b off len cap s ex),(1,.int .i64 (l:Int)),(2,.top)]))=.yes b off len cap s ex:=by kernel_rfl
 have e1:bnd (fr As [(0,.sl b off len cap s ex),(1,.int .i64 (l:Int)),(2,.top)]) (some (.tmp 1)) 0=some l:=by kernel_rfl
 have e2:bnd (fr As [(0,.sl b off len cap s ex),(1,.int .i64 (l:Int)),(2,.top)]) none len=some len:=rfl
 show E2 t (.tmp 0) (some (.tmp 1)) none none 0 P noCall (fr As [(0,.sl b off len cap s ex),(1,.int .i64 (l:Int)),(2,.top)]) h=_
 unfold E2
 rw [hx]
 simp only [e0,e1,e2,Nat.beq_refl]
theorem xSl_hi {t e:TypeId} {b off len cap s bytes:Nat} {ex:Bool} (hx:Gn P t=.sl ⟨e,s,bytes⟩) (u:Nat):xSl P t (.sl b off len cap s ex) none (some (.int .i64 (u:Int))) h=slSl b off cap s ex 0 u h:=by
 have e0:vL (ev (.tmp 0) (fr As [(0,.sl b off len cap s ex),(1,.top),(2,.int .i64 (u:Int))]))=.yes b off len cap s ex:=by kernel_rfl
 have e1:bnd (fr As [(0,.sl b off len cap s ex),(1,.top),(2,.int .i64 (u:Int))]) none 0=some 0:=rfl
 have e2:bnd (fr As [(0,.sl b off len cap s ex),(1,.top),(2,.int .i64 (u:Int))]) (some (.tmp 2)) len=some u:=by kernel_rfl
 show E2 t (.tmp 0) none (some (.tmp 2)) none 0 P noCall (fr As [(0,.sl b off len cap s ex),(1,.top),(2,.int .i64 (u:Int))]) h=_
 unfold E2
 rw [hx]
 simp only [e0,e1,e2,Nat.beq_refl]
theorem eql_nsl {t:TypeId} (ht:tk P t=.slice) (c:Bool) (b o l k z:Nat) (e:Bool):Al P .eql t c (.sl b o l k z e) .Cb h=.ok (.bool false) h:=by
 have h1:aeq P 20 t (.sl b o l k z e) .Cb=some false:=by
  show Dm P (aeq P 19) t _ _=_
  unfold Dm
  rw [ht]
  rfl
 show (match aeq P 20 t (.sl b o l k z e) .Cb with|some b=>OR.ok (.bool (false != b)) h|none=>.bad 38)=_
 rw [h1]
 rfl
theorem neq_bool {t:TypeId} (ht:tk P t=.bool) (c a b:Bool):Al P .neq t c (.bool a) (.bool b) h=.ok (.bool (true != (a == b))) h:=by
 have h1:aeq P 20 t (.bool a) (.bool b)=some (a == b):=by
  show Dm P (aeq P 19) t _ _=_
  unfold Dm
  rw [ht]
  rfl
 show (match aeq P 20 t (.bool a) (.bool b) with|some b=>OR.ok (.bool (true != b)) h|none=>.bad 38)=_
 rw [h1]
theorem app_empty {s bytes len lo b:Nat} {et e:TypeId} {c:List AV} (hg:h.m.get b=.cells [] e .exact) (hs:SlAt s h y len c) (hlen:0<len) (hb:len * (bytes+1)<1000000000000) (h1:Bn c=true) (hl:h.nx+2<=Bh) (hlo:lo<=h.nx):
 B3 2 h (fun v h'=>TipAt s lo et h' v len c) (xApp et s bytes (.sl b 0 0 0 s true) y h):=by
 have hrun:xApp et s bytes (.sl b 0 0 0 s true) y h=.ok (.sl (h.nx+1) 0 len len s false) ((h.new (.ctr 0)).new (.cells c et (.Fz h.nx))):=by
  show (match srcOf h s y with
   |some (n,new)=>Dz (.bad 121) (Dz (.bad 121) (Dz (.bad 121) (appSl ⟨et,s,bytes⟩ b 0 0 0 s true n new h) (Nat.beq s s)) (Bn new)) (Gq ((0+n) * (bytes+1)))
   |none=>.bad 123)=_
  rw [hs.src]
  have h3:Nat.ble (Nat.add 0 len) 0=false:=by
   cases hx:Nat.ble (Nat.add 0 len) 0 with
   |false=>rfl
   |true=>
    have:0+len<=0:=Nat.le_of_ble_eq_true hx
    omega
  simp only [h1,Fu,Nat.zero_add,decide_eq_true hb,Nat.beq_refl]
  show (Dz _ _ (Nat.ble (Nat.add 0 len) 0):OR)=_
  rw [h3]
  show appEx ⟨et,s,bytes⟩ b 0 0 (Nat.add 0 len) c h=_
  unfold appEx
  rw [rd_eq,hg]
  have h4:Nat.add 0 len=len:=Nat.zero_add len
  simp only [rdO_exact,E1,h4,Nat.zero_mul,Nat.zero_add,List.length_nil,Nat.le_refl,if_true,Dn]
  rfl
 refine ⟨_,_,hrun,((Ext.refl 0 h).new _ (by omega)).new _ (by show h.nx+1<Bh;omega),⟨⟨h.nx+1,h.nx,0,rfl,?_,?_,by omega,hlo,by show h.nx+1<h.nx+2;omega,by show h.nx<h.nx+2;omega,by omega⟩,hs.clen⟩⟩
 . exact Az (h:=h.new (.ctr 0)) _ (by show h.nx+1<Bh;omega)
 . rw [new_get_ne (h:=h.new (.ctr 0)) _ h.nx (by show h.nx+1<Bh;omega) (by omega) (by show h.nx≠h.nx+1;omega)]
   exact Az _ (by omega)
section
variable {Q:AV->H->Prop} {k:AV->H->OR} {r a b:OR}
theorem Fo (hc:B3 n h0 Q (k v h)):B3 n h0 Q (Aa (.ok v h) k):=hc
theorem gets_bindQ_noLog (hc:B3 n h0 Q (k v (Ab h))):B3 n h0 Q (Aj h1 (.ok v (Ab h)) k):=by rw [bindQ_noLog];exact hc
theorem gets_bindQ_ok (hq:wrote h2.nx h1.lg=[]) (hc:B3 n h0 Q (k v h1)):B3 n h0 Q (Aj h2 (.ok v h1) k):=by rw [bindQ_ok v h2 h1 k hq];exact hc
theorem Gf (hc:B3 n h0 Q a):B3 n h0 Q (Ah (.bool true) a b):=hc
theorem Ge (hc:B3 n h0 Q b):B3 n h0 Q (Ah (.bool false) a b):=hc
theorem gets_cond {c:Bool} (ha:c=true->B3 n h0 Q a) (hb:c=false->B3 n h0 Q b):B3 n h0 Q (Ah (.bool c) a b):=by
 cases c
 . exact hb rfl
 . exact ha rfl
theorem gisR (hc:B3 n h0 Q (Aa r k)):B3 n h0 Q (Aa r k):=hc
theorem gisC (hc:B3 n h0 Q (Ah v a b)):B3 n h0 Q (Ah v a b):=hc
end
theorem gets_bind0 {y:Nat} {Q R:AV->H->Prop} {r:OR} {k:AV->H->OR} (hr:B3 m h0 R r) (hk:∀ v h1,Ext m h0 h1->R v h1->B3 y h0 Q (k v h1)):B3 y h0 Q (Aa r k):=by
 obtain ⟨v,h1,rfl,e,hq⟩:=hr
 exact hk v h1 e hq
noncomputable def selV (c w:Bool) (v:AV):AV:=if c=w then v else .Bl []
@[simp] theorem selV_same (c:Bool) (v:AV):selV c c v=v:=if_pos rfl
@[simp] theorem selV_ft (v:AV):selV false true v=.Bl []:=rfl
@[simp] theorem selV_tf (v:AV):selV true false v=.Bl []:=rfl
@[simp] theorem selV_sel (c w:Bool) (v:AV):selV c w (selV c w v)=selV c w v:=by
 unfold selV
 by_cases hh:c=w
 . simp [hh]
 . simp [hh]
theorem Ca (c w:Bool) (v:AV) (h:H):Ac (.bool c) w (.ok v h) h=.ok (selV c w v) h:=by cases c<;>cases w<;>rfl
theorem Bt (c e:Bool) (r:OR) (h:H):Ac (selV c false (.bool e)) true r h=Ac (.bool (!c&&e)) true r h:=by cases c<;>cases e<;>rfl
theorem Bu (c e:Bool) (r:OR) (h:H):Ac (selV c true (.bool e)) true r h=Ac (.bool (c&&e)) true r h:=by cases c<;>cases e<;>rfl
theorem Bv (c e:Bool) (r:OR) (h:H):Ac (selV c false (.bool e)) false r h=Ac (.bool (c||e)) false r h:=by cases c<;>cases e<;>rfl
theorem Bw (c e:Bool) (r:OR) (h:H):Ac (selV c true (.bool e)) false r h=Ac (.bool (!c||e)) false r h:=by cases c<;>cases e<;>rfl
theorem Cl (c d:Bool) (h:H):Av (.bool c) (.bool true) (selV c false (.bool d)) h=.ok (.bool (c||d)) h:=by cases c<;>rfl
theorem B9 (c d:Bool) (h:H):Av (.bool c) (selV c true (.bool d)) (.bool false) h=.ok (.bool (c&&d)) h:=by cases c<;>rfl
theorem gets_wantG {c w:Bool} {v:AV} {r:OR} {k:AV->H->OR} {Q:AV->H->Prop} (hr:c=w->r=.ok v h) (hk:B3 n h0 Q (k (selV c w v) h)):B3 n h0 Q (Aa (Ac (.bool c) w r h) k):=by
 cases c<;>cases w
 . rw [hr rfl] at *;exact hk
 . exact hk
 . exact hk
 . rw [hr rfl] at *;exact hk
end Go.Ev.Sx
namespace Go.Ev.Sx
open Go.Ev
variable {P:Program} {ctx:Ae} {h h0 h1 h2:H} {v x y:AV} {s len len':Nat} {c c':List AV}
structure Ai (h h':H):Prop where
 lo:h.nx<=h'.nx
 old:∀ b,b<h.nx->h'.m.get b=h.m.get b
 lg:∀ x∈h'.lg,x∈h.lg\/h.nx<=x
theorem Ai.refl (h:H):Ai h h:=⟨Nat.le_refl _,fun _ _=>rfl,fun _ hx=>.inl hx⟩
theorem Ai.trans (e:Ai h h1) (e':Ai h1 h2):Ai h h2:=
 ⟨Nat.le_trans e.lo e'.lo,fun b hb=>by rw [e'.old b (Nat.lt_of_lt_of_le hb e.lo),e.old b hb],fun x hx=>by
  rcases e'.lg x hx with h3|h3
  . exact e.lg x h3
  . exact .inr (Nat.le_trans e.lo h3)⟩
theorem Ai.new (e:Ai h h1) (o:AO):Ai h (h1.new o):=
 ⟨by show h.nx<=h1.nx+1;have:=e.lo;omega,fun b hb=>by rw [Gi o b (by have:=e.lo;omega),e.old b hb],e.lg⟩
theorem Ai.put (e:Ai h h1) (c:Nat) (o:AO) (hc:h.nx<=c):Ai h (h1.put c o):=
 ⟨e.lo,fun b hb=>by rw [B0 c o b (by omega),e.old b hb],fun x hx=>by
  rcases List.mem_cons.1 hx with rfl|hx
  . exact .inr hc
  . exact e.lg x hx⟩
theorem Ai.nl (e:Ai h h1):Ai h (Ab h1):=⟨e.lo,e.old,fun x hx=>by cases hx⟩
theorem Ai.ofNoLog (e:Ai (Ab h) h1):Ai h h1:=⟨e.lo,e.old,fun x hx=>by
 rcases e.lg x hx with h3|h3
 . cases h3
 . exact .inr h3⟩
theorem Ai.Ap (e:Ai h h1) (e2:Ai h h2):Ai h (Ap h2.lg h1):=⟨e.lo,e.old,e2.lg⟩
theorem Ai.quiet (e:Ai (Ab h) h1):wrote h.nx h1.lg=[]:=by
 have hg:=e.lg
 revert hg
 generalize h1.lg=l
 intro hg
 induction l with
 |nil=>rfl
 |cons a l ih=>
  have h3:h.nx<=a:=by
   rcases hg a (List.mem_cons_self ..) with h3|h3
   . cases h3
   . exact h3
  rw [Bb _ _ _ h3]
  exact ih fun x hx=>hg x (List.mem_cons_of_mem _ hx)
def readK (h:H):CK->Prop
 |.exact=>True
 |.fz _=>True
 |.Fz _=>True
 |.old k st=>k<h.nx/\h.m.get k=.ctr st
structure Cont (h:H) (b:Nat) (cs:List AV):Prop where
 lt:b<h.nx
 cells:∃ e k,h.m.get b=.cells cs e k/\readK h k
@[simp] theorem rdO_noLog (o:AO):rdO o (Ab h)=rdO o h:=by cases o with|cells c e k=>cases k<;>rfl|_=>rfl
@[simp] theorem rdO_reLog (o:AO) (l:List Nat):rdO o (Ap l h)=rdO o h:=by cases o with|cells c e k=>cases k<;>rfl|_=>rfl
theorem Cont.rd {b:Nat} {cs:List AV} (hc:Cont h b cs):rdO (h.m.get b) h=some cs:=by
 obtain ⟨e,k,h1,h2⟩:=hc.cells
 rw [h1]
 cases k with
 |old k st=>
  show (Bool.rec (motive:=fun _=>Option (List AV)) none (some cs) (isCtr st (h.m.get k)))=some cs
  rw [h2.2]
  show (Bool.rec (motive:=fun _=>Option (List AV)) none (some cs) (Nat.beq st st))=some cs
  rw [Nat.beq_refl]
 |_=>rfl
structure A9 (h h':H):Prop where
 lo:h.nx<=h'.nx
 cont:∀ b cs,Cont h b cs->Cont h' b cs
theorem A9.refl (h:H):A9 h h:=⟨Nat.le_refl _,fun _ _ hc=>hc⟩
theorem A9.trans (e:A9 h h1) (e':A9 h1 h2):A9 h h2:=⟨Nat.le_trans e.lo e'.lo,fun b cs hc=>e'.cont b cs (e.cont b cs hc)⟩
theorem Ai.keeps (e:Ai h h1):A9 h h1:=⟨e.lo,fun b cs hc=>by
 obtain ⟨t,k,h1,h2⟩:=hc.cells
 refine ⟨Nat.lt_of_lt_of_le hc.lt e.lo,t,k,by rw [e.old b hc.lt];exact h1,?_⟩
 cases k with
 |old k st=>exact ⟨Nat.lt_of_lt_of_le h2.1 e.lo,by rw [e.old k h2.1];exact h2.2⟩
 |_=>trivial⟩
theorem A9.nl (e:A9 h h1):A9 h (Ab h1):=⟨e.lo,fun b cs hc=>e.cont b cs hc |> fun q=>⟨q.lt,q.cells⟩⟩
theorem A9.ofNoLog (e:A9 (Ab h) h1):A9 h h1:=⟨e.lo,fun b cs hc=>e.cont b cs ⟨hc.lt,hc.cells⟩⟩
theorem A9.Ap (e:A9 h h1) (l:List Nat):A9 h (Ap l h1):=⟨e.lo,fun b cs hc=>e.cont b cs hc |> fun q=>⟨q.lt,q.cells⟩⟩
theorem Cont.new (cs:List AV) (e:TypeId) (k:CK) (hk:k=.exact):Cont (h.new (.cells cs e k)) h.nx cs:=⟨by show h.nx<h.nx+1;omega,e,k,Eh _,by subst hk;trivial⟩
def Af (h:H) (Q:AV->H->Prop) (r:OR):Prop:=∃ v h',r=.ok v h'/\Ai h h'/\Q v h'
section
variable {Q R:AV->H->Prop} {k:AV->H->OR} {r a b:OR}
theorem Cj (e:Ai h0 h) (hq:Q v h):Af h0 Q (.ok v h):=⟨v,h,rfl,e,hq⟩
theorem Af.mono (hr:Af h0 R r) (hq:∀ v h,Ai h0 h->R v h->Q v h):Af h0 Q r:=by
 obtain ⟨v,h1,rfl,e,q⟩:=hr
 exact ⟨v,h1,rfl,e,hq v h1 e q⟩
theorem Af.of (e:Ai h0 h) (hr:Af h Q r):Af h0 Q r:=by
 obtain ⟨v,h1,rfl,e1,q⟩:=hr
 exact ⟨v,h1,rfl,e.trans e1,q⟩
theorem D0 (hr:Af h R r) (hk:∀ v h1,Ai h h1->R v h1->Af h0 Q (k v h1)):Af h0 Q (Aa r k):=by
 obtain ⟨v,h1,rfl,e,hq⟩:=hr
 exact hk v h1 e hq
theorem gv_callQ (hr:Af (Ab h) R r) (hk:∀ v h1,Ai h h1->R v h1->Af h0 Q (k v h1)):Af h0 Q (Aj h r k):=by
 obtain ⟨v,h1,rfl,e,hq⟩:=hr
 rw [bindQ_ok _ _ _ _ e.quiet]
 exact hk v h1 e.ofNoLog hq
theorem B8 (hr:r=.ok v h) (hk:Af h0 Q (k v h)):Af h0 Q (Aa r k):=by rw [hr];exact hk
theorem gv_bind_ok (hc:Af h0 Q (k v h)):Af h0 Q (Aa (.ok v h) k):=hc
theorem gv_bindQ_noLog (hc:Af h0 Q (k v (Ab h))):Af h0 Q (Aj h1 (.ok v (Ab h)) k):=by rw [bindQ_noLog];exact hc
theorem gv_bindQ_ok (hq:wrote h2.nx h1.lg=[]) (hc:Af h0 Q (k v h1)):Af h0 Q (Aj h2 (.ok v h1) k):=by rw [bindQ_ok v h2 h1 k hq];exact hc
theorem gv_cond_t (hc:Af h0 Q a):Af h0 Q (Ah (.bool true) a b):=hc
theorem gv_cond_f (hc:Af h0 Q b):Af h0 Q (Ah (.bool false) a b):=hc
theorem gv_cond {c:Bool} (ha:c=true->Af h0 Q a) (hb:c=false->Af h0 Q b):Af h0 Q (Ah (.bool c) a b):=by
 cases c
 . exact hb rfl
 . exact ha rfl
theorem gv_want_t {c:Bool} (ht:c=true->Af h0 Q (Aa r k)) (hf:c=false->Af h0 Q (k (.Bl []) h)):Af h0 Q (Aa (Ac (.bool c) true r h) k):=by
 cases c
 . exact hf rfl
 . exact ht rfl
theorem gv_want_f {c:Bool} (ht:c=true->Af h0 Q (k (.Bl []) h)) (hf:c=false->Af h0 Q (Aa r k)):Af h0 Q (Aa (Ac (.bool c) false r h) k):=by
 cases c
 . exact hf rfl
 . exact ht rfl
theorem gv_wantQ_t {c:Bool} (ht:c=true->Af h0 Q (Aj h1 r k)) (hf:c=false->Af h0 Q (Aj h1 (.ok (.Bl []) h) k)):Af h0 Q (Aj h1 (Ac (.bool c) true r h) k):=by
 cases c
 . exact hf rfl
 . exact ht rfl
theorem gv_wantQ_f {c:Bool} (ht:c=true->Af h0 Q (Aj h1 (.ok (.Bl []) h) k)) (hf:c=false->Af h0 Q (Aj h1 r k)):Af h0 Q (Aj h1 (Ac (.bool c) false r h) k):=by
 cases c
 . exact hf rfl
 . exact ht rfl
theorem gvR (hc:Af h0 Q (Aa r k)):Af h0 Q (Aa r k):=hc
theorem gvC (hc:Af h0 Q (Ah v a b)):Af h0 Q (Ah v a b):=hc
theorem gv_wantG {c w:Bool} {v:AV} (hr:c=w->r=.ok v h) (hk:Af h0 Q (k (selV c w v) h)):Af h0 Q (Aa (Ac (.bool c) w r h) k):=by
 cases c<;>cases w
 . rw [hr rfl] at *;exact hk
 . exact hk
 . exact hk
 . rw [hr rfl] at *;exact hk
end
def Sl (s:Nat) (h:H) (v:AV) (len:Nat) (c:List AV):Prop:=
 (len=0/\c=[]/\v=.Cb)\/∃ b off cap ex cs,v=.sl b off len cap s ex/\len<=cap/\Cont h b cs/\off+len * s<=cs.length/\(cs.drop off).take (len * s)=c
theorem Sl.B2 (hs:Sl s h v len c) (e:A9 h h1):Sl s h1 v len c:=by
 rcases hs with h3|⟨b,off,cap,ex,cs,q1,q2,q3,q4⟩
 . exact .inl h3
 . exact .inr ⟨b,off,cap,ex,cs,q1,q2,e.cont b cs q3,q4⟩
theorem Sl.gr (hs:Sl s h v len c) (e:Ai h h1):Sl s h1 v len c:=hs.B2 e.keeps
theorem Sl.lenL (hs:Sl s h v len c):Ft v h1=.ok (.int .i64 (len:Int)) h1:=by
 rcases hs with ⟨rfl,_,rfl⟩|⟨b,off,cap,ex,cs,rfl,_⟩<;>rfl
theorem Sl.clen (hs:Sl s h v len c):c.length=len * s:=by
 rcases hs with ⟨rfl,rfl,rfl⟩|⟨b,off,cap,ex,cs,q1,q2,q3,q4,q5⟩
 . simp
 . rw [<- q5,List.length_take,List.length_drop];omega
theorem Sl.src (hs:Sl s h v len c):srcOf h s v=some (len,c):=by
 rcases hs with ⟨rfl,rfl,rfl⟩|⟨b,off,cap,ex,cs,rfl,q2,q3,q4,q5⟩
 . rfl
 . show (match h.rd b with|some c=>(lcut c off (len * s)).map fun l=>(len,l)|none=>none)=_
   rw [rd_eq,q3.rd]
   simp only [E1]
   rw [if_pos q4,q5]
   rfl
theorem Sl.ia (hs:Sl s h v len c) {i:Nat} (hi:i<len):∃ b o cs,(∀ h1,E3 s v (.int .i64 (i:Int)) h1=.ok (.ptr b o) h1)/\Cont h b cs/\o+s<=cs.length/\(cs.drop o).take s=(c.drop (i * s)).take s:=by
 rcases hs with ⟨rfl,rfl,rfl⟩|⟨b,off,cap,ex,cs,rfl,q2,q3,q4,q5⟩
 . omega
 . have h5:i * s+s<=len * s:=by have:=Nat.mul_le_mul_right s (show i+1<=len by omega);rw [Nat.add_mul,Nat.one_mul] at this;exact this
   refine ⟨b,off+i * s,cs,fun h1=>xIA_sl s b off len cap s ex i hi,q3,by omega,?_⟩
   rw [<- q5,List.drop_take,List.take_take,List.drop_drop]
   congr 1
   omega
theorem Cont.many {b o n:Nat} {cs l:List AV} (hc:Cont h b cs) (ho:o+n<=cs.length) (hl:(cs.drop o).take n=l):∀ hh,A9 h hh->Ad (some (some n)) (.ptr b o) hh=.ok (.agg l) hh:=fun hh e=>by
 rw [xLoad_ptr,(e.cont b cs hc).rd,ldC_some,ldL_many,E1,if_pos ho,hl]
 rfl
theorem Cont.one {b o:Nat} {cs:List AV} (hc:Cont h b cs) (ho:cs[o]?=some x):∀ hh,A9 h hh->Ad (some none) (.ptr b o) hh=.ok x hh:=fun hh e=>by
 rw [xLoad_ptr,(e.cont b cs hc).rd,ldC_some,ldL_one,lget_get,ho]
 rfl
structure Elem (s:Nat) (h:H) (v:AV) (i:Nat) (l:List AV) (b o:Nat):Prop where
 ia:∀ h1,E3 s v (.int .i64 (i:Int)) h1=.ok (.ptr b o) h1
 all:∀ hh,A9 h hh->Ad (some (some s)) (.ptr b o) hh=.ok (.agg l) hh
 part:∀ j x,l[j]?=some x->∀ hh,A9 h hh->Ad (some none) (.ptr b (o+j)) hh=.ok x hh
 many:∀ j n,j+n<=s->∀ hh,A9 h hh->Ad (some (some n)) (.ptr b (o+j)) hh=.ok (.agg ((l.drop j).take n)) hh
theorem Sl.elem (hs:Sl s h v len c) {i:Nat} (hi:i<len) {l:List AV} (hl:(c.drop (i * s)).take s=l):∃ b o,Elem s h v i l b o:=by
 obtain ⟨b,o,cs,p1,p2,p3,p4⟩:=hs.ia hi
 rw [hl] at p4
 refine ⟨b,o,p1,p2.many p3 p4,fun j x hx=>p2.one ?_,fun j n hj=>p2.many (by omega) ?_⟩
 . have h5:((cs.drop o).take s)[j]?=some x:=by rw [p4];exact hx
   have hj:j<s:=by
    have:=(List.getElem?_eq_some_iff.1 h5).1
    simp [List.length_take] at this
    omega
   simpa [List.getElem?_take,List.getElem?_drop,hj] using h5
 . rw [<- p4,List.drop_take,List.take_take,List.drop_drop]
   congr 1
   omega
theorem flatMap_drop {α:Type} {f:α->List AV} (hf:∀ a,(f a).length=s):∀ (l:List α) (i:Nat) (x:α),l[i]?=some x->((l.flatMap f).drop (i * s)).take s=f x:=by
 intro l
 induction l with
 |nil=>intro i x hx;simp at hx
 |cons a l ih=>
  intro i x hx
  cases i with
  |zero=>
   simp at hx
   subst hx
   rw [List.flatMap_cons,Nat.zero_mul,List.drop_zero,List.take_append_of_le_length (by rw [hf];exact Nat.le_refl _),List.take_of_length_le (by rw [hf];exact Nat.le_refl _)]
  |succ i=>
   rw [List.flatMap_cons,Nat.add_mul,Nat.one_mul,Nat.add_comm,<- List.drop_drop,List.drop_left' (hf a)]
   exact ih i x (by simpa using hx)
theorem flatMap_len {α:Type} {f:α->List AV} (hf:∀ a,(f a).length=s) (l:List α):(l.flatMap f).length=l.length * s:=by
 induction l with
 |nil=>simp
 |cons a l ih=>rw [List.flatMap_cons,List.length_append,ih,hf,List.length_cons,Nat.add_mul];omega
abbrev SlF {α:Type} (s:Nat) (f:α->List AV) (h:H) (v:AV) (l:List α):Prop:=Sl s h v l.length (l.flatMap f)
theorem SlF.elem {α:Type} {f:α->List AV} (hf:∀ a,(f a).length=s) {l:List α} (hs:SlF s f h v l) {i:Nat} {x:α} (hx:l[i]?=some x):∃ b o,Elem s h v i (f x) b o:=
 Sl.elem hs (List.getElem?_eq_some_iff.1 hx).1 (flatMap_drop hf l i x hx)
theorem Sl.lit {cs:List AV} {e:TypeId} (hg:h1.m.get h.nx=.cells cs e .exact) (hn:h1.nx=h.nx+1) (hl:cs.length=len * s):Sl s h1 (.sl h.nx 0 len len s true) len cs:=
 .inr ⟨h.nx,0,len,true,cs,rfl,Nat.le_refl _,⟨by omega,e,.exact,hg,trivial⟩,by omega,by rw [List.drop_zero,List.take_of_length_le (by omega)]⟩
def Own (s lo:Nat) (et:TypeId) (h:H) (v:AV) (len:Nat) (c:List AV):Prop:=
 (len=0/\c=[]/\v=.Cb)\/(len=0/\c=[]/\∃ b off cs,v=.sl b off 0 0 s true/\Cont h b cs/\off<=cs.length) \/
 (∃ b k st,v=.sl b 0 len len s false/\h.m.get b=.cells c et (.Fz k)/\h.m.get k=.ctr st/\lo<=b/\lo<=k/\b<h.nx/\k<h.nx/\b≠k/\c.length=len * s)
theorem Own.sl {lo:Nat} {et:TypeId} (ho:Own s lo et h v len c):Sl s h v len c:=by
 rcases ho with h1|⟨rfl,rfl,b,off,cs,rfl,h2,h3⟩|⟨b,k,st,rfl,q2,q3,q4,q5,q6,q7,q8,q9⟩
 . exact .inl h1
 . exact .inr ⟨b,off,0,true,cs,rfl,Nat.le_refl _,h2,by omega,by simp⟩
 . exact .inr ⟨b,0,len,false,c,rfl,Nat.le_refl _,⟨q6,et,.Fz k,q2,trivial⟩,by omega,by rw [List.drop_zero,List.take_of_length_le (by omega)]⟩
theorem Own.gr {lo:Nat} {et:TypeId} (ho:Own s lo et h v len c) (e:Ai h h1):Own s lo et h1 v len c:=by
 rcases ho with h1|⟨rfl,rfl,b,off,cs,rfl,h2,h3⟩|⟨b,k,st,rfl,q2,q3,q4,q5,q6,q7,q8,q9⟩
 . exact .inl h1
 . exact .inr (.inl ⟨rfl,rfl,b,off,cs,rfl,e.keeps.cont b cs h2,h3⟩)
 . exact .inr (.inr ⟨b,k,st,rfl,by rw [e.old b q6];exact q2,by rw [e.old k q7];exact q3,q4,q5,Nat.lt_of_lt_of_le q6 e.lo,Nat.lt_of_lt_of_le q7 e.lo,q8,q9⟩)
theorem Own.nil (s lo:Nat) (et:TypeId) (h:H):Own s lo et h .Cb 0 []:=.inl ⟨rfl,rfl,rfl⟩
theorem Own.empty {lo:Nat} {et e:TypeId} (hg:h1.m.get h.nx=.cells [] e .exact) (hn:h1.nx=h.nx+1):Own s lo et h1 (.sl h.nx 0 0 0 s true) 0 []:=
 .inr (.inl ⟨rfl,rfl,h.nx,0,[],rfl,⟨by omega,e,.exact,hg,trivial⟩,Nat.le_refl _⟩)
theorem Own.one {lo:Nat} {et:TypeId} (ho:Own s lo et h v len c) {lo2:Nat} (hl:lo2<=lo):Own s lo2 et h v len c:=by
 rcases ho with h1|h1|⟨b,k,st,q1,q2,q3,q4,q5,q6⟩
 . exact .inl h1
 . exact .inr (.inl h1)
 . exact .inr (.inr ⟨b,k,st,q1,q2,q3,by omega,by omega,q6⟩)
theorem Own.appS {bytes lo:Nat} {et:TypeId} (ho:Own s lo et h x len c) (hsrc:srcOf h s y=some (len',c')) (hcl:c'.length=len' * s) (hb:(len+len') * (bytes+1)<1000000000000) (h1:Bn c'=true) (hlo:lo<=h.nx):
 ∃ v h',xApp et s bytes x y h=.ok v h'/\A9 h h'/\(∀ h0,h0.nx<=lo->Ai h0 h->Ai h0 h')/\Own s lo et h' v (len+len') (c++c')/\(∀ b,b<lo->h'.m.get b=h.m.get b):=by
 have hgrow:∀ (cs:List AV) (need:Nat),cs.length=need * s->(grow h et s cs need=.ok (.sl (Nat.succ h.nx) 0 need need s false) ((h.new (.ctr 0)).new (.cells cs et (.Fz h.nx))))/\Ai h ((h.new (.ctr 0)).new (.cells cs et (.Fz h.nx)))/\Own s lo et ((h.new (.ctr 0)).new (.cells cs et (.Fz h.nx))) (.sl (Nat.succ h.nx) 0 need need s false) need cs:=by
  intro cs need hn
  refine ⟨rfl,((Ai.refl h).new _).new _,.inr (.inr ⟨h.nx+1,h.nx,0,rfl,Eh (h:=h.new (.ctr 0)) _,?_,by omega,hlo,by show h.nx+1<h.nx+1+1;omega,by show h.nx<h.nx+1+1;omega,by omega,hn⟩)⟩
  rw [Gi (h:=h.new (.ctr 0)) _ h.nx (by show h.nx≠h.nx+1;omega)]
  exact Eh _
 rcases ho with ⟨rfl,rfl,rfl⟩|⟨rfl,rfl,b,off,cs,rfl,h2,h3⟩|⟨b,k,st,rfl,q2,q3,q4,q5,q6,q7,q8,q9⟩
 . rw [Nat.zero_add] at hb ⊢
   rw [List.nil_append]
   have hr:xApp et s bytes .Cb y h=(match srcOf h s y with
    |some (n,new)=>Dz (Dz (.bad 120) (Dz (.bad 120) (grow h et s new n) (Bn new)) (Gq (n * (bytes+1)))) (.ok .Cb h) (Nat.beq n 0)
    |none=>.bad 123):=rfl
   rw [hr,hsrc]
   by_cases h0:len'=0
   . subst h0
     have hc':c'=[]:=List.length_eq_zero_iff.1 (by omega)
     subst hc'
     exact ⟨_,_,rfl,A9.refl h,fun _ _ e=>e,Own.nil ..,fun _ _=>rfl⟩
   . obtain ⟨g1,g2,g3⟩:=hgrow c' len' hcl
     have h2:Nat.beq len' 0=false:=by cases len' with|zero=>omega|succ k=>rfl
     simp only [h2,h1,Fu,decide_eq_true hb]
     exact ⟨_,_,g1,g2.keeps,fun h0 _ e=>e.trans g2,g3,fun b hb=>g2.old b (by omega)⟩
 . rw [Nat.zero_add] at hb ⊢
   rw [List.nil_append]
   have hr:xApp et s bytes (.sl b off 0 0 s true) y h=(match srcOf h s y with
    |some (n,new)=>Dz (.bad 121) (Dz (.bad 121) (Dz (.bad 121) (appSl ⟨et,s,bytes⟩ b off 0 0 s true n new h) (Nat.beq s s)) (Bn new)) (Gq ((0+n) * (bytes+1)))
    |none=>.bad 123):=rfl
   rw [hr,hsrc]
   simp only [h1,Fu,Nat.zero_add,decide_eq_true hb,Nat.beq_refl]
   by_cases h0:len'=0
   . subst h0
     have hc':c'=[]:=List.length_eq_zero_iff.1 (by omega)
     subst hc'
     exact ⟨_,_,rfl,A9.refl h,fun _ _ e=>e,.inr (.inl ⟨rfl,rfl,b,off,cs,rfl,h2,h3⟩),fun _ _=>rfl⟩
   . obtain ⟨g1,g2,g3⟩:=hgrow c' len' hcl
     have h4:Nat.ble (Nat.add 0 len') 0=false:=by
      cases hx:Nat.ble (Nat.add 0 len') 0 with
      |false=>rfl
      |true=>
       have:0+len'<=0:=Nat.le_of_ble_eq_true hx
       omega
     have hrun:(Dz (.bad 121) (Dz (.bad 121) (Dz (.bad 121) (appSl ⟨et,s,bytes⟩ b off 0 0 s true len' c' h) true) true) true:OR)=grow h et s c' len':=by
      show (Dz _ _ (Nat.ble (Nat.add 0 len') 0):OR)=_
      rw [h4]
      show appEx ⟨et,s,bytes⟩ b off 0 (Nat.add 0 len') c' h=_
      unfold appEx
      rw [rd_eq,h2.rd]
      have h5:Nat.add 0 len'=len':=Nat.zero_add len'
      simp only [E1,h5,Nat.zero_mul,Nat.add_zero,h3,if_true,List.take_zero,Dn,List.nil_append]
     rw [hrun]
     exact ⟨_,_,g1,g2.keeps,fun h0 _ e=>e.trans g2,g3,fun b hb=>g2.old b (by omega)⟩
 . have hr:xApp et s bytes (.sl b 0 len len s false) y h=(match srcOf h s y with
    |some (n,new)=>Dz (.bad 121) (Dz (.bad 121) (Dz (.bad 121) (appSl ⟨et,s,bytes⟩ b 0 len len s false n new h) (Nat.beq s s)) (Bn new)) (Gq ((len+n) * (bytes+1)))
    |none=>.bad 123):=rfl
   rw [hr,hsrc]
   simp only [h1,Fu,decide_eq_true hb,Nat.beq_refl]
   by_cases h0:len'=0
   . subst h0
     have hc':c'=[]:=List.length_eq_zero_iff.1 (by omega)
     subst hc'
     refine ⟨.sl b 0 (len+0) len s false,h,?_,A9.refl h,fun _ _ e=>e,.inr (.inr ⟨b,k,st,rfl,by rw [List.append_nil];exact q2,q3,q4,q5,q6,q7,q8,by rw [List.append_nil];exact q9⟩),fun _ _=>rfl⟩
     show (Dz _ _ (Nat.ble (Nat.add len 0) len):OR)=_
     rw [show Nat.ble (Nat.add len 0) len=true from Nat.ble_eq_true_of_le (Nat.le_refl _)]
     rfl
   . have h4:Nat.ble (Nat.add len len') len=false:=by
      cases hx:Nat.ble (Nat.add len len') len with
      |false=>rfl
      |true=>
       have:len+len'<=len:=Nat.le_of_ble_eq_true hx
       omega
     have hrun:(Dz (.bad 121) (Dz (.bad 121) (Dz (.bad 121) (appSl ⟨et,s,bytes⟩ b 0 len len s false len' c' h) true) true) true:OR)=.ok (.sl h.nx 0 (len+len') (len+len') s false) (((h.put b (.cells c et (.old k st))).put k (.ctr st)).new (.cells (c++c') et (.Fz k))):=by
      show (Dz _ _ (Nat.ble (Nat.add len len') len):OR)=_
      rw [h4]
      show appTip ⟨et,s,bytes⟩ b 0 len (Nat.add len len') c' h=_
      unfold appTip
      rw [q2]
      simp only [q3,ctrN_ctr,E1,q9,Nat.zero_add,Nat.le_refl,if_true,Gt,Nat.beq_refl,Dn]
      rfl
     rw [hrun]
     have hget:∀ j,j<h.nx->j≠b->j≠k->(((h.put b (.cells c et (.old k st))).put k (.ctr st)).new (.cells (c++c') et (.Fz k))).m.get j=h.m.get j:=fun j h5 h6 h7=>by
      rw [Gi (h:=(h.put b (.cells c et (.old k st))).put k (.ctr st)) _ j (by show j≠h.nx;omega),B0 _ _ _ h7,B0 _ _ _ h6]
     have hgetb:(((h.put b (.cells c et (.old k st))).put k (.ctr st)).new (.cells (c++c') et (.Fz k))).m.get b=.cells c et (.old k st):=by
      rw [Gi (h:=(h.put b (.cells c et (.old k st))).put k (.ctr st)) _ b (by show b≠h.nx;omega),B0 _ _ _ q8,Fw]
     have hgetk:(((h.put b (.cells c et (.old k st))).put k (.ctr st)).new (.cells (c++c') et (.Fz k))).m.get k=.ctr st:=by
      rw [Gi (h:=(h.put b (.cells c et (.old k st))).put k (.ctr st)) _ k (by show k≠h.nx;omega),Fw]
     refine ⟨_,_,rfl,⟨by show h.nx<=h.nx+1;omega,fun j cs hj=>?_⟩,fun h0 hh0 e=>((e.put b _ (by omega)).put k _ (by omega)).new _,.inr (.inr ⟨h.nx,k,st,rfl,Eh (h:=(h.put b (.cells c et (.old k st))).put k (.ctr st)) _,hgetk,hlo,q5,by show h.nx<h.nx+1;omega,by show k<h.nx+1;omega,by omega,by rw [List.length_append,q9,hcl,Nat.add_mul]⟩),fun j hj=>hget j (by omega) (by omega) (by omega)⟩
     refine ⟨by show j<h.nx+1;have:=hj.lt;omega,?_⟩
     obtain ⟨e,kk,r1,r2⟩:=hj.cells
     by_cases hjb:j=b
     . subst hjb
       rw [q2] at r1
       cases r1
       exact ⟨et,.old k st,hgetb,by show k<h.nx+1;omega,hgetk⟩
     . have hjk:j≠k:=fun hh=>by rw [hh,q3] at r1;cases r1
       refine ⟨e,kk,by rw [hget j hj.lt hjb hjk];exact r1,?_⟩
       cases kk with
       |old k2 st2=>
        refine ⟨by show k2<h.nx+1;have:=r2.1;omega,?_⟩
        by_cases hk2:k2=k
        . subst hk2
          rw [hgetk,<- q3]
          exact r2.2
        . have hkb:k2≠b:=fun hh=>by
           have:=r2.2
           rw [hh,q2] at this
           cases this
          rw [hget k2 r2.1 hkb hk2]
          exact r2.2
       |_=>trivial
noncomputable def resCV (x:Option (List AV)) (o n:Nat) (v:AV) (h:H):OR:=match x with
 |some c=>if o+n<=c.length then .ok (.Bl [.agg ((c.drop o).take n),v]) h else .bad 197
 |none=>.bad 197
@[simp] theorem resCV_some (c:List AV) (o n:Nat) (v:AV):resCV (some c) o n v h=if o+n<=c.length then .ok (.Bl [.agg ((c.drop o).take n),v]) h else .bad 197:=rfl
@[simp] theorem xRes_cv (b o n:Nat) (v:AV):De [.c (some (some n)) (.ptr b o),.v v] h=resCV (rdO (h.m.get b) h) o n v h:=by
 show (match (match (match h.rd b with|some c=>partI (some (some n)) c o|none=>none),(some [v]:Option (List AV)) with|some v,some l=>some (v::l)|_,_=>none) with|some l=>OR.ok (single l) h|none=>.bad 197)=_
 rw [rd_eq]
 cases rdO (h.m.get b) h with
 |none=>rfl
 |some c=>
  show (match (match (lcut c o n).map AV.agg,(some [v]:Option (List AV)) with|some v,some l=>some (v::l)|_,_=>none) with|some l=>OR.ok (single l) h|none=>.bad 197)=_
  rw [E1]
  by_cases hh:o+n<=c.length
  . rw [if_pos hh,resCV_some,if_pos hh];rfl
  . rw [if_neg hh,resCV_some,if_neg hh];rfl
theorem Own.app {bytes lo:Nat} {et:TypeId} (ho:Own s lo et h x len c) (hs:Sl s h y len' c') (hb:(len+len') * (bytes+1)<1000000000000) (h1:Bn c'=true) (hlo:lo<=h.nx):
 ∃ v h',xApp et s bytes x y h=.ok v h'/\A9 h h'/\(∀ h0,h0.nx<=lo->Ai h0 h->Ai h0 h')/\Own s lo et h' v (len+len') (c++c')/\(∀ b,b<lo->h'.m.get b=h.m.get b):=ho.appS hs.src hs.clen hb h1 hlo
theorem app_from_empty {bytes lo b off:Nat} {et:TypeId} {cs:List AV} (h2:Cont h b cs) (h3:off<=cs.length) (hsrc:srcOf h s y=some (len',c')) (hcl:c'.length=len' * s) (hb:len' * (bytes+1)<1000000000000) (h1:Bn c'=true) (hlo:lo<=h.nx):
 ∃ v h',xApp et s bytes (.sl b off 0 0 s true) y h=.ok v h'/\Ai h h'/\Own s lo et h' v len' c':=by
 have hr:xApp et s bytes (.sl b off 0 0 s true) y h=(match srcOf h s y with
  |some (n,new)=>Dz (.bad 121) (Dz (.bad 121) (Dz (.bad 121) (appSl ⟨et,s,bytes⟩ b off 0 0 s true n new h) (Nat.beq s s)) (Bn new)) (Gq ((0+n) * (bytes+1)))
  |none=>.bad 123):=rfl
 rw [hr,hsrc]
 simp only [h1,Fu,Nat.zero_add,decide_eq_true hb,Nat.beq_refl]
 by_cases h0:len'=0
 . subst h0
   have hc':c'=[]:=List.length_eq_zero_iff.1 (by omega)
   subst hc'
   exact ⟨_,_,rfl,Ai.refl h,.inr (.inl ⟨rfl,rfl,b,off,cs,rfl,h2,h3⟩)⟩
 . have h4:Nat.ble (Nat.add 0 len') 0=false:=by
    cases hx:Nat.ble (Nat.add 0 len') 0 with
    |false=>rfl
    |true=>
     have:0+len'<=0:=Nat.le_of_ble_eq_true hx
     omega
   have hrun:(Dz (.bad 121) (Dz (.bad 121) (Dz (.bad 121) (appSl ⟨et,s,bytes⟩ b off 0 0 s true len' c' h) true) true) true:OR)=grow h et s c' len':=by
    show (Dz _ _ (Nat.ble (Nat.add 0 len') 0):OR)=_
    rw [h4]
    show appEx ⟨et,s,bytes⟩ b off 0 (Nat.add 0 len') c' h=_
    unfold appEx
    rw [rd_eq,h2.rd]
    have h5:Nat.add 0 len'=len':=Nat.zero_add len'
    simp only [E1,h5,Nat.zero_mul,Nat.add_zero,h3,if_true,List.take_zero,Dn,List.nil_append]
   rw [hrun]
   refine ⟨_,_,rfl,((Ai.refl h).new _).new _,.inr (.inr ⟨h.nx+1,h.nx,0,rfl,Eh (h:=h.new (.ctr 0)) _,?_,by omega,hlo,by show h.nx+1<h.nx+1+1;omega,by show h.nx<h.nx+1+1;omega,by omega,hcl⟩)⟩
   rw [Gi (h:=h.new (.ctr 0)) _ h.nx (by show h.nx≠h.nx+1;omega)]
   exact Eh _
theorem slSl_eq {b off cap sz l u:Nat} {ex:Bool} (h1:l<=u) (h2:u<=cap):slSl b off cap sz ex l u h=if l<cap then .ok (.sl b (off+l * sz) (u - l) (cap - l) sz ex) h else if ex=true then .ok (.sl b off 0 0 sz true) h else if l=0 then .ok (.sl b off 0 0 sz ex) h else .ok (.sl b (off+1) 0 0 0 false) h:=by
 show (Bool.rec (motive:=fun _=>OR) (.bad 74) (Bool.rec (motive:=fun _=>OR) (.bad 74) (Bool.rec (motive:=fun _=>OR) (Bool.rec (motive:=fun _=>OR) (Bool.rec (motive:=fun _=>OR) (.ok (.sl b (Nat.succ off) 0 0 0 false) h) (.ok (.sl b off 0 0 sz ex) h) (Nat.beq l 0)) (.ok (.sl b off 0 0 sz true) h) ex) (.ok (.sl b (off+l * sz) (Nat.sub u l) (Nat.sub cap l) sz ex) h) (Nat.blt l cap)) (Nat.ble u cap)) (Nat.ble l u):OR)=_
 rw [show Nat.ble l u=true by simpa using h1,show Nat.ble u cap=true by simpa using h2]
 by_cases h3:l<cap
 . rw [if_pos h3,show Nat.blt l cap=true by simpa using h3]
   rfl
 . rw [if_neg h3,show Nat.blt l cap=false by
    cases hb:Nat.blt l cap with
    |false=>rfl
    |true=>exact absurd (by simpa using hb) h3]
   cases ex with
   |true=>rfl
   |false=>
    by_cases h4:l=0
    . subst h4;rfl
    . rw [if_neg (by simp),if_neg h4]
      have:Nat.beq l 0=false:=by cases l with|zero=>omega|succ k=>rfl
      rw [this]
theorem xSl_nil_hi {t e:TypeId} {bytes:Nat} (hx:Gn P t=.sl ⟨e,s,bytes⟩):xSl P t .Cb none (some (.int .i64 0)) h=.ok .Cb h:=by
 have e0:vL (ev (.tmp 0) (fr As [(0,.Cb),(1,.top),(2,.int .i64 0)]))=.nil:=by kernel_rfl
 have e1:bnd (fr As [(0,.Cb),(1,.top),(2,.int .i64 0)]) none 0=some 0:=rfl
 have e2:bnd (fr As [(0,.Cb),(1,.top),(2,.int .i64 0)]) (some (.tmp 2)) 0=some 0:=by kernel_rfl
 show E2 t (.tmp 0) none (some (.tmp 2)) none 0 P noCall (fr As [(0,.Cb),(1,.top),(2,.int .i64 0)]) h=_
 unfold E2
 rw [hx]
 simp only [e0,e1,e2]
theorem xSl_nil_lo {t e:TypeId} {bytes:Nat} (hx:Gn P t=.sl ⟨e,s,bytes⟩):xSl P t .Cb (some (.int .i64 0)) none h=.ok .Cb h:=by
 have e0:vL (ev (.tmp 0) (fr As [(0,.Cb),(1,.int .i64 0),(2,.top)]))=.nil:=by kernel_rfl
 have e1:bnd (fr As [(0,.Cb),(1,.int .i64 0),(2,.top)]) (some (.tmp 1)) 0=some 0:=by kernel_rfl
 have e2:bnd (fr As [(0,.Cb),(1,.int .i64 0),(2,.top)]) none 0=some 0:=rfl
 show E2 t (.tmp 0) (some (.tmp 1)) none none 0 P noCall (fr As [(0,.Cb),(1,.int .i64 0),(2,.top)]) h=_
 unfold E2
 rw [hx]
 simp only [e0,e1,e2]
theorem src_sl {b off l cap:Nat} {ex:Bool} {cs:List AV} (hc:Cont h b cs) (ho:off+l * s<=cs.length) (z:Nat):∀ hh,A9 h hh->srcOf hh s (.sl b off l cap z ex)=some (l,(cs.drop off).take (l * s)):=fun hh e=>by
 show (match hh.rd b with|some c=>(lcut c off (l * s)).map fun q=>(l,q)|none=>none)=_
 rw [rd_eq,(e.cont b cs hc).rd]
 simp only [E1]
 rw [if_pos ho]
 rfl
theorem Sl.hi {t e:TypeId} {bytes u:Nat} (hx:Gn P t=.sl ⟨e,s,bytes⟩) (hs:Sl s h v len c) (hu:u<=len):∃ v',(∀ hh,xSl P t v none (some (.int .i64 (u:Int))) hh=.ok v' hh)/\∀ hh,A9 h hh->srcOf hh s v'=some (u,c.take (u * s)):=by
 rcases hs with ⟨rfl,rfl,rfl⟩|⟨b,off,cap,ex,cs,rfl,q2,q3,q4,q5⟩
 . have:u=0:=by omega
   subst this
   exact ⟨.Cb,fun hh=>xSl_nil_hi hx,fun hh _=>by simp;rfl⟩
 . have h5:u * s<=len * s:=Nat.mul_le_mul_right s hu
   have hc':c.take (u * s)=(cs.drop off).take (u * s):=by rw [<- q5,List.take_take,Nat.min_eq_left h5]
   rw [hc']
   by_cases h0:0<cap
   . refine ⟨_,fun hh=>by rw [xSl_hi hx,slSl_eq (Nat.zero_le _) (by omega),if_pos h0],?_⟩
     have:=src_sl (s:=s) (l:=u) (cap:=cap - 0) (ex:=ex) q3 (show off+0 * s+u * s<=cs.length by omega) s
     simpa using this
   . have hu0:u=0:=by omega
     subst hu0
     have hq:∀ hh,xSl P t (.sl b off len cap s ex) none (some (.int .i64 ((0:Nat):Int))) hh=.ok (.sl b off 0 0 s ex) hh:=fun hh=>by
      rw [xSl_hi hx,slSl_eq (Nat.zero_le _) (by omega),if_neg h0]
      cases ex<;>rfl
     exact ⟨_,hq,src_sl (s:=s) (l:=0) (cap:=0) (ex:=ex) q3 (by omega) s⟩
theorem Sl.lo {t e:TypeId} {bytes k:Nat} (hsp:0<s) (hx:Gn P t=.sl ⟨e,s,bytes⟩) (hs:Sl s h v len c) (hk:k<=len):∃ v',(∀ hh,xSl P t v (some (.int .i64 (k:Int))) none hh=.ok v' hh)/\∀ hh,A9 h hh->srcOf hh s v'=some (len - k,c.drop (k * s)):=by
 rcases hs with ⟨rfl,rfl,rfl⟩|⟨b,off,cap,ex,cs,rfl,q2,q3,q4,q5⟩
 . have:k=0:=by omega
   subst this
   exact ⟨.Cb,fun hh=>xSl_nil_lo hx,fun hh _=>by simp;rfl⟩
 . have h5:k * s<=len * s:=Nat.mul_le_mul_right s hk
   have h6:(len - k) * s=len * s - k * s:=Nat.sub_mul ..
   have hc':c.drop (k * s)=(cs.drop (off+k * s)).take ((len - k) * s):=by rw [<- q5,List.drop_take,List.drop_drop,h6]
   rw [hc']
   by_cases h0:k<cap
   . exact ⟨_,fun hh=>by rw [xSl_lo hx,slSl_eq hk q2,if_pos h0],src_sl (s:=s) q3 (by omega) s⟩
   . have hkl:len - k=0:=by omega
     have hempty:(cs.drop (off+k * s)).take ((len - k) * s)=[]:=by rw [hkl];simp
     rw [hempty,hkl]
     by_cases h1:ex=true
     . refine ⟨.sl b off 0 0 s true,fun hh=>by rw [xSl_lo hx,slSl_eq hk q2,if_neg h0,if_pos h1],fun hh e=>?_⟩
       rw [src_sl (s:=s) (l:=0) q3 (by omega) s hh e]
       simp
     . by_cases h2:k=0
       . refine ⟨.sl b off 0 0 s ex,fun hh=>by rw [xSl_lo hx,slSl_eq hk q2,if_neg h0,if_neg h1,if_pos h2],fun hh e=>?_⟩
         rw [src_sl (s:=s) (l:=0) q3 (by omega) s hh e]
         simp
       . have hks:s<=k * s:=Nat.le_mul_of_pos_left s (by omega)
         refine ⟨.sl b (off+1) 0 0 0 false,fun hh=>by rw [xSl_lo hx,slSl_eq hk q2,if_neg h0,if_neg h1,if_neg h2],fun hh e=>?_⟩
         rw [src_sl (s:=s) (l:=0) q3 (by omega) 0 hh e]
         simp
theorem xSl_str_lo {t:TypeId} {a:List Nat} {k:Nat} (hx:Gn P t=.str) (hk:k<=a.length):xSl P t (.str a) (some (.int .i64 (k:Int))) none h=.ok (.str (a.drop k)) h:=by
 have e0:vS (ev (.tmp 0) (fr As [(0,.str a),(1,.int .i64 (k:Int)),(2,.top)]))=.yes a:=by kernel_rfl
 have e1:bnd (fr As [(0,.str a),(1,.int .i64 (k:Int)),(2,.top)]) (some (.tmp 1)) 0=some k:=by kernel_rfl
 have e2:bnd (fr As [(0,.str a),(1,.int .i64 (k:Int)),(2,.top)]) none (slen a)=some (slen a):=rfl
 show E2 t (.tmp 0) (some (.tmp 1)) none none 0 P noCall (fr As [(0,.str a),(1,.int .i64 (k:Int)),(2,.top)]) h=_
 unfold E2
 rw [hx]
 simp only [e0,e1,e2]
 show (Bool.rec (motive:=fun _=>OR) (.bad 71) (Bool.rec (motive:=fun _=>OR) (.bad 71) (.ok (.str (stake (Nat.sub (slen a) k) (sdrop a k))) h) (Nat.ble (slen a) (slen a))) (Nat.ble k (slen a)):OR)=_
 rw [slen_eq,show Nat.ble k a.length=true by simpa using hk,show Nat.ble a.length a.length=true by simp,stake_eq,sdrop_eq]
 show OR.ok (.str ((a.drop k).take (a.length - k))) h=_
 rw [List.take_of_length_le (by simp)]
theorem xSl_str_hi {t:TypeId} {a:List Nat} {k:Nat} (hx:Gn P t=.str) (hk:k<=a.length):xSl P t (.str a) none (some (.int .i64 (k:Int))) h=.ok (.str (a.take k)) h:=by
 have e0:vS (ev (.tmp 0) (fr As [(0,.str a),(1,.top),(2,.int .i64 (k:Int))]))=.yes a:=by kernel_rfl
 have e1:bnd (fr As [(0,.str a),(1,.top),(2,.int .i64 (k:Int))]) none 0=some 0:=rfl
 have e2:bnd (fr As [(0,.str a),(1,.top),(2,.int .i64 (k:Int))]) (some (.tmp 2)) (slen a)=some k:=by kernel_rfl
 show E2 t (.tmp 0) none (some (.tmp 2)) none 0 P noCall (fr As [(0,.str a),(1,.top),(2,.int .i64 (k:Int))]) h=_
 unfold E2
 rw [hx]
 simp only [e0,e1,e2]
 show (Bool.rec (motive:=fun _=>OR) (.bad 71) (Bool.rec (motive:=fun _=>OR) (.bad 71) (.ok (.str (stake (Nat.sub k 0) (sdrop a 0))) h) (Nat.ble k (slen a))) (Nat.ble 0 k):OR)=_
 rw [slen_eq,show Nat.ble k a.length=true by simpa using hk,show Nat.ble 0 k=true by simp,stake_eq,sdrop_eq]
 rfl
theorem xBin_adds (t:TypeId) (cc:Bool) (a b:List Nat) (hb:a.length+b.length<1000000000000):Al P .add t cc (.str a) (.str b) h=.ok (.str (a++b)) h:=by
 show (Bool.rec (motive:=fun _=>OR) (.bad 37) (.ok (.str (sapp a b)) h) (Gq (Nat.add (slen a) (slen b))):OR)=_
 rw [slen_eq,slen_eq,Fu,show decide (Nat.add a.length b.length<1000000000000)=true from decide_eq_true hb]
 show OR.ok (.str (sapp a b)) h=_
 rw [sapp_eq]
theorem Ex {Q:AV->H->Prop} {lg:List Nat} {efs:List EF} {k:H->OR} (he:effOk efs=true) (hk:Af h0 Q (k (Ap (Ec efs lg) h))):Af h0 Q (F4 lg efs h k):=by rw [drEnd_ok he];exact hk
theorem Ai.reC {c:Nat} {l:List Nat} (e:Ai h (Go.Ev.Ap l h1)) (hc:h.nx<=c):Ai h (Go.Ev.Ap (c::l) h1):=⟨e.lo,e.old,fun x hx=>by
 rcases List.mem_cons.1 hx with rfl|hx
 . exact .inr hc
 . exact e.lg x hx⟩
end Go.Ev.Sx
namespace Go.Ev
variable [Lim]
variable {P:Program} {G:Nat} {σ σ':Dj} {h h':H} {w w':World} {v:AV} {ctx:Ae}
def Plain (x:AV):Prop:=∀ σ σ' v,Aq σ x v->Aq σ' x v
theorem Plain.top:Plain .top:=fun _ _ v _=>.top v
theorem Plain.bool (b:Bool):Plain (.bool b):=fun _ _ v h=>by cases h;exact .bool b
theorem Plain.int (k:IntKind) (n:Int):Plain (.int k n):=fun _ _ v h=>by cases h;exact .int k n
theorem Plain.str (s:List Nat):Plain (.str s):=fun _ _ v h=>by cases h;exact .str _
theorem Plain.nptr:Plain .nptr:=fun _ _ v h=>by cases h;exact .nptr
theorem Plain.Cb:Plain .Cb:=fun _ _ v h=>by cases h;exact .Cb
theorem Plain.nmap:Plain .nmap:=fun _ _ v h=>by cases h;exact .nmap
theorem Plain.nfn:Plain .nfn:=fun _ _ v h=>by cases h;exact .nfn
theorem Plain.Bx:Plain .Bx:=fun _ _ v h=>by cases h;exact .Bx
theorem Plain.ifc {t:TypeId} {x:AV} (hx:Plain x):Plain (.ifc t x):=fun σ σ' v h=>by cases h with|ifc t x v' h'=>exact .ifc _ _ _ (hx σ σ' _ h')
theorem Plain.agg {l:List AV} (hl:∀ x∈l,Plain x):Plain (.agg l):=fun σ σ' v h=>by
 cases h with|agg cs cs' h1 h2=>exact .agg _ _ h1 fun i x y hx hy=>hl x (List.mem_of_getElem? hx) σ σ' _ (h2 i x y hx hy)
theorem Plain.Bl {l:List AV} (hl:∀ x∈l,Plain x):Plain (.Bl l):=fun σ σ' v h=>by
 cases h with|Bl cs cs' h1 h2=>exact .Bl _ _ h1 fun i x y hx hy=>hl x (List.mem_of_getElem? hx) σ σ' _ (h2 i x y hx hy)
theorem Plain.fn {f:Fn} {l1 l2:List AV} (hf:∀ l,f≠.yield l) (ha:∀ x∈l1,Plain x) (hc:∀ x∈l2,Plain x):Plain (.fn f l1 l2):=fun σ σ' v h=>by
 cases h with
 |fn f0 c1 c2 d1 d2 q h1 h2 h3 h4=>exact .fn _ _ _ _ _ hf h1 (fun i x y hx hy=>ha x (List.mem_of_getElem? hx) σ σ' _ (h2 i x y hx hy)) h3 (fun i x y hx hy=>hc x (List.mem_of_getElem? hx) σ σ' _ (h4 i x y hx hy))
 |yld l e h'=>exact absurd rfl (hf l)
def PlainL (l:List AV):Prop:=∀ x∈l,Plain x
theorem PlainL.rel {l:List AV} {a:List Value} (hl:PlainL l) (σ σ':Dj) (h:Bd σ l a):Bd σ' l a:=⟨h.1,fun i x y hx hy=>hl x (List.mem_of_getElem? hx) σ σ' _ (h.2 i x y hx hy)⟩
theorem PlainL.nil:PlainL []:=fun _ h=>by cases h
theorem PlainL.cons {x:AV} {l:List AV} (hx:Plain x) (hl:PlainL l):PlainL (x::l):=fun y h=>by
 rcases List.mem_cons.1 h with rfl|h
 . exact hx
 . exact hl y h
structure Ran0 (P:Program) (ctx:Ae) (g:FuncId) (args:List AV) (v:AV):Prop where
 ran:∃ h1,ctx.call g args (glH [] P.globals.size)=.ok v h1/\h1.nx<=Bh/\∀ x∈h1.lg,P.globals.size<=x
theorem glOk_nil:glOk P.globals.size []=true:=rfl
theorem orc_of_ran (hc:A7 P P.globals.size ctx) (hn:P.globals.size<=Bh) {g:FuncId} {args:List AV} {v:AV} (hb:Ba P g=true) (hv:Plain v) (hr:Ran0 P ctx g args v):OrcOk P [] ⟨g,args,v⟩:=by
 obtain ⟨h1,he,hl,hlg⟩:=hr.ran
 intro w args' kind hw har
 obtain ⟨hms,hg⟩:=wok_ms hw hn glOk_nil
 have hfree:Fk (sig0 P.globals.size w) (glH [] P.globals.size) h1:=by
  intro x h2 h3
  have h2':P.globals.size<=x:=h2
  unfold sig0
  rw [if_neg (by omega)]
 obtain ⟨σ',v',w',a',fn,q1,q2,q3,q4,q5,q6⟩:=hc.call g args _ h1 v _ w args' kind he hb (har _) hms hg hl hfree
 obtain ⟨nw,s1,s2,s3⟩:=q3
 have hnw:h1.lg=nw:=by rw [s1.lg];simp [glH]
 refine ⟨v',w',a',fn,q1,fun σ=>hv _ _ _ q2,⟨s2.grow,fun c hc2=>s2.frame c hc2 ?_,s2.io⟩,q4,q5,q6⟩
 intro x hx e hxe
 have h5:=(F8 hxe).1
 have h6:=hlg x (by rw [hnw];exact hx)
 omega
abbrev C7:=FuncId->List AV->Option AV
structure TOk (P:Program) (T:C7):Prop where
 ok:∀ g args v,T g args=some v->OrcOk P [] ⟨g,args,v⟩/\PlainL args
theorem TOk.none:TOk P (fun _ _=>none):=⟨fun _ _ _ h=>by cases h⟩
noncomputable def ctxT (T:C7) (ctx:Ae):Ae:=⟨fun g args h=>Option.rec (motive:=fun _=>OR) (ctx.call g args h) (fun v=>.ok v h) (T g args),ctx.round⟩
noncomputable def cD (P:Program) (T:C7) (d:Nat):Ae:=Nat.rec (motive:=fun _=>Ae) noCall (fun _ ih=>ctxT T ⟨Fc P ih,roundF P ih⟩) d
variable {T:C7}
theorem ctxT_mono (hc:Dk ctx):Dk (ctxT T ctx):=by
 refine ⟨fun g args h v h' he=>?_,hc.round⟩
 have he':(Option.rec (motive:=fun _=>OR) (ctx.call g args h) (fun v=>.ok v h) (T g args):OR)=.ok v h':=he
 cases ho:T g args with
 |none=>rw [ho] at he';exact hc.call g args h v h' he'
 |some u=>rw [ho] at he';obtain ⟨_,rfl⟩:=By he';exact Nat.le_refl _
theorem ctxT_sound (hc:A7 P P.globals.size ctx) (ht:TOk P T):A7 P P.globals.size (ctxT T ctx):=by
 refine ⟨?_,fun l args h h' v σ w args' e he=>hc.round l args h h' v σ w args' e he,ctxT_mono hc.mono,?_,hc.rpan⟩
 rotate_left
 . intro g args h h' v σ w args' he hb har hm hg hl hf
   have he':(Option.rec (motive:=fun _=>OR) (ctx.call g args h) (fun v=>.ok v h) (T g args):OR)=.pan v h':=he
   cases ho:T g args with
   |none=>rw [ho] at he';exact hc.pan g args h h' v σ w args' he' hb har hm hg hl hf
   |some u=>rw [ho] at he';cases he'
 intro g args h h' v σ w args' kind he hb har hm hg hl hf
 have he':(Option.rec (motive:=fun _=>OR) (ctx.call g args h) (fun v=>.ok v h) (T g args):OR)=.ok v h':=he
 cases ho:T g args with
 |none=>rw [ho] at he';exact hc.call g args h h' v σ w args' kind he' hb har hm hg hl hf
 |some u=>
  rw [ho] at he'
  obtain ⟨rfl,rfl⟩:=By he'
  obtain ⟨q1,q2⟩:=ht.ok g args u ho
  obtain ⟨v',w',a',fn,r1,r2,r3,r4,r5,r6⟩:=q1 w args' kind (ms_wok hm hg glOk_nil rfl) (fun σ'=>q2.rel _ _ har)
  refine ⟨σ,v',w',a',fn,r1,r2 σ,⟨[],AStep.refl hm.ai,⟨Sle.refl σ,fun x e h1 h2=>(by rw [h1] at h2;cases h2),⟨hm.so.inj,fun x e hx=>Nat.lt_of_lt_of_le (hm.so.rng x e hx) r3.grow,hm.so.low⟩,r3.grow,fun c hc2 _=>r3.same c hc2,
   fun x e h1 h2=>(by rw [h1] at h2;cases h2),r3.io⟩,?_⟩,r4,r5,r6⟩
  intro x e hx
  exact Gb.congr (Sle.refl σ) (r3.same e.c (hm.so.rng x e hx)) (fun _ _ _ _ _ hh=>hh) (hm.ma x e hx)
theorem cD_sound (hmx:P.follows .mixedOrders=true) (hp:progOk P=true) (ht:TOk P T) (d:Nat):A7 P P.globals.size (cD P T d):=by
 induction d with
 |zero=>exact ctxD_sound hmx hp 0
 |succ d ih=>exact ctxT_sound (ctxS ih hmx hp ⟨mono_callF ih.mono,mono_roundF ih.mono⟩) ht
theorem cD_some {d:Nat} {g:FuncId} {args:List AV} (h:H) (ho:T g args=some v):(cD P T (d+1)).call g args h=.ok v h:=by
 show (Option.rec (motive:=fun _=>OR) (Fc P (cD P T d) g args h) (fun v=>.ok v h) (T g args):OR)=.ok v h
 rw [ho]
theorem cD_none {d:Nat} {g:FuncId} {args:List AV} (h:H) (ho:T g args=none):(cD P T (d+1)).call g args h=Fc P (cD P T d) g args h:=by
 show (Option.rec (motive:=fun _=>OR) (Fc P (cD P T d) g args h) (fun v=>.ok v h) (T g args):OR)=_
 rw [ho]
noncomputable def C7.ext (T:C7) (g:FuncId) (S:List AV->Option AV):C7:=fun g' args=>Bool.rec (motive:=fun _=>Option AV) (T g' args) (S args) (Nat.beq g' g)
theorem ext_same (g:FuncId) (S:List AV->Option AV) (args:List AV):T.ext g S g args=S args:=by unfold C7.ext;rw [Nat.beq_refl]
theorem ext_other {g g':FuncId} (S:List AV->Option AV) (args:List AV) (hne:g'≠g):T.ext g S g' args=T g' args:=by
 unfold C7.ext
 have:Nat.beq g' g=false:=by
  cases hb:Nat.beq g' g with
  |false=>rfl
  |true=>exact absurd (Nat.eq_of_beq_eq_true hb) hne
 rw [this]
theorem TOk.ext (hmx:P.follows .mixedOrders=true) (hp:progOk P=true) (hn:P.globals.size<=Bh) (ht:TOk P T) {g:FuncId} {S:List AV->Option AV} (hb:Ba P g=true)
 (hs:∀ args v,S args=some v->PlainL args/\Plain v/\∃ d h1,Fc P (cD P T d) g args (glH [] P.globals.size)=.ok v h1/\h1.nx<=Bh/\∀ x∈h1.lg,P.globals.size<=x):TOk P (T.ext g S):=by
 refine ⟨fun g' args v hv=>?_⟩
 by_cases he:g'=g
 . subst he
   rw [ext_same] at hv
   obtain ⟨h1,h2,d,h3,h4,h5,h6⟩:=hs args v hv
   have hc:A7 P P.globals.size ⟨Fc P (cD P T d),roundF P (cD P T d)⟩:=ctxS (cD_sound hmx hp ht d) hmx hp ⟨mono_callF (cD_sound hmx hp ht d).mono,mono_roundF (cD_sound hmx hp ht d).mono⟩
   exact ⟨orc_of_ran hc hn hb h2 ⟨⟨h3,h4,h5,h6⟩⟩,h1⟩
 . rw [ext_other _ _ he] at hv
   exact ht.ok g' args v hv
end Go.Ev
namespace Go.Ev
open Sx
theorem Bp {h:H}:(∀ o:AO,(h.new o).nx=h.nx+1)/\(∀ (b:Nat) (o:AO),(h.put b o).nx=h.nx)/\(Ab h).nx=h.nx/\∀ lg:List Nat,(Ap lg h).nx=h.nx:=⟨fun _=>rfl,fun _ _=>rfl,rfl,fun _=>rfl⟩
theorem Ar:(∀ (p:Prop) [Decidable p],(decide p=true)=p)/\(∀ (p:Prop) [Decidable p],(decide p=false)=¬ p)/\(∀ b:Bool,((!b)=true)=(b=false))/\(∀ b:Bool,((!b)=false)=(b=true))/\(∀ b:Bool,(¬ b=true)=(b=false))/\∀ b:Bool,(¬ b=false)=(b=true):=by simp
theorem lc:(∀ (vs l:List AV) (off:Nat),lput l vs off=if off+vs.length<=l.length then some (l.take off++vs++l.drop (off+vs.length)) else none)/\(∀ (l:List AV) (off n:Nat),lcut l off n=if off+n<=l.length then some ((l.drop off).take n) else none):=⟨lput_eq,E1⟩
theorem lw:(∀ (vs l:List AV) (off:Nat),lput l vs off=if off+vs.length<=l.length then some (l.take off++vs++l.drop (off+vs.length)) else none)/\(∀ (l:List AV) (off n:Nat),lcut l off n=if off+n<=l.length then some ((l.drop off).take n) else none)/\∀ n:Int,-9223372036854775808<=n->n<=9223372036854775807->Ga .i64 n=n:=⟨lput_eq,E1,Cg⟩
theorem Ch {p:Prop} (q:p:=by first|omega|(simp only [Bp];omega)):p:=q
theorem E5 {h h':H} (q:Sx.A9 h h':=by first|((first|exact Sx.A9.refl _|assumption|(repeat' (first|assumption|exact Sx.A9.refl _|exact Sx.Ai.refl _|with_reducible apply Sx.A9.nl|with_reducible apply Sx.A9.Ap|with_reducible apply Sx.Ai.nl|with_reducible apply Sx.Ai.Ap|(with_reducible refine Sx.Ai.reC ?_ ?_)|(with_reducible refine Sx.A9.trans ?_ (Sx.Ai.keeps (by assumption)))|(with_reducible apply Sx.Ai.keeps)|with_reducible apply Sx.Ai.new|(with_reducible refine Sx.Ai.put ?_ _ _ ?_)|(with_reducible refine Sx.Ai.trans ?_ (by assumption))|omega|(simp only [Bp];omega))));done)|fail):Sx.A9 h h':=q
theorem Ak {h h':H} (q:Sx.Ai h h':=by first|((repeat' (first|assumption|exact Sx.Ai.refl _|with_reducible apply Sx.Ai.nl|with_reducible apply Sx.Ai.Ap|(with_reducible refine Sx.Ai.reC ?_ ?_)|with_reducible apply Sx.Ai.new|(with_reducible refine Sx.Ai.put ?_ _ _ ?_)|(with_reducible refine Sx.Ai.trans ?_ (by assumption))|omega|(simp only [Bp];omega)));done)|fail):Sx.Ai h h':=q
theorem dA {p:Prop} (q:p:=by first|omega|(simp only [Bp];omega)|((first|exact Sx.A9.refl _|assumption|(repeat' (first|assumption|exact Sx.A9.refl _|exact Sx.Ai.refl _|with_reducible apply Sx.A9.nl|with_reducible apply Sx.A9.Ap|with_reducible apply Sx.Ai.nl|with_reducible apply Sx.Ai.Ap|(with_reducible refine Sx.Ai.reC ?_ ?_)|(with_reducible refine Sx.A9.trans ?_ (Sx.Ai.keeps (by assumption)))|(with_reducible apply Sx.Ai.keeps)|with_reducible apply Sx.Ai.new|(with_reducible refine Sx.Ai.put ?_ _ _ ?_)|(with_reducible refine Sx.Ai.trans ?_ (by assumption))|omega|(simp only [Bp];omega))));done)|fail):p:=q
theorem finA {p:Prop} (q:p:=by first|(simp;done)|(simp;omega)|(intro y hy;simp at hy;(first|exact .inl hy|exact .inr (by omega)|(rcases hy with hy|hy;exact .inr (by omega);exact .inl hy)|(rcases hy with hy|hy|hy;exact .inr (by omega);exact .inr (by omega);exact .inl hy)))|fail):p:=q
theorem finB {p:Prop} (q:p:=by first|(simp;done)|(simp;omega)|(intro y hy;simp at hy;(first|exact .inl hy|exact .inr (by omega)|(rcases hy with hy|hy;exact .inr (by omega);exact .inl hy)|(rcases hy with hy|hy|hy;exact .inr (by omega);exact .inr (by omega);exact .inl hy)))|(simp only [decide_eq_true_eq,decide_eq_false_iff_not] at *;simp [*];done)|(simp_all;done)|(simp_all;omega)|fail):p:=q
section
variable {Q R:AV->H->Prop} {r r':OR} {k:AV->H->OR} {h h0 h1 h2:H} {v x y:AV} {a b:OR} {c w:Bool} {l:List RX} {n:Nat}
theorem A3 (hc:Af h0 Q (k v h)):Af h0 Q (Aa (.ok v h) k):=hc
theorem A4 (hc:Af h0 Q (k v (Ab h))):Af h0 Q (Aj h1 (.ok v (Ab h)) k):=gv_bindQ_noLog hc
theorem A5 (hc:Af h0 Q a):Af h0 Q (Ah (.bool true) a b):=hc
theorem A6 (hc:Af h0 Q b):Af h0 Q (Ah (.bool false) a b):=hc
theorem Cn (hc:Af h0 Q (.ok v h)):Af h0 Q (.ok v h):=hc
theorem Co (hq:wrote h2.nx h1.lg=[]) (hc:Af h0 Q (k v h1)):Af h0 Q (Aj h2 (.ok v h1) k):=gv_bindQ_ok hq hc
theorem Cp (ha:c=true->Af h0 Q a) (hb:c=false->Af h0 Q b):Af h0 Q (Ah (.bool c) a b):=gv_cond ha hb
theorem Cq (e:r=r') (hc:Af h0 Q (Aa r' k)):Af h0 Q (Aa r k):=e ▸ hc
theorem Cr (e:r=r') (hc:Af h0 Q (Aj h r' k)):Af h0 Q (Aj h r k):=e ▸ hc
theorem Cs (e:x=y) (hc:Af h0 Q (Ah y a b)):Af h0 Q (Ah x a b):=e ▸ hc
theorem Ct (e:De l h=r) (hc:Af h0 Q r):Af h0 Q (De l h):=e ▸ hc
theorem Db (hr:Af h R r) (hk:∀ v h1,Ai h h1->h.nx<=h1.nx->(∀ b,b<h.nx->h1.m.get b=h.m.get b)->R v h1->Af h0 Q (k v h1)):Af h0 Q (Aa r k):=D0 hr fun v h1 e q=>hk v h1 e e.lo e.old q
theorem Dc (hr:Af (Ab h) R r) (hk:∀ v h1,Ai h h1->h.nx<=h1.nx->(∀ b,b<h.nx->h1.m.get b=h.m.get b)->R v h1->Af h0 Q (k v h1)):Af h0 Q (Aj h r k):=gv_callQ hr fun v h1 e q=>hk v h1 e e.lo e.old q
theorem Cu (ht:c=true->Af h0 Q (Aa r k)) (hf:c=false->Af h0 Q (k (.Bl []) h)):Af h0 Q (Aa (Ac (.bool c) true r h) k):=gv_want_t ht hf
theorem Cv (ht:c=true->Af h0 Q (k (.Bl []) h)) (hf:c=false->Af h0 Q (Aa r k)):Af h0 Q (Aa (Ac (.bool c) false r h) k):=gv_want_f ht hf
theorem Cw (ht:c=true->Af h0 Q (Aj h1 r k)) (hf:c=false->Af h0 Q (Aj h1 (.ok (.Bl []) h) k)):Af h0 Q (Aj h1 (Ac (.bool c) true r h) k):=gv_wantQ_t ht hf
theorem Cx (ht:c=true->Af h0 Q (Aj h1 (.ok (.Bl []) h) k)) (hf:c=false->Af h0 Q (Aj h1 r k)):Af h0 Q (Aj h1 (Ac (.bool c) false r h) k):=gv_wantQ_f ht hf
theorem ze1 (e:Ac x w r h=r') (hc:Af h0 Q (Aa r' k)):Af h0 Q (Aa (Ac x w r h) k):=e ▸ hc
theorem ze2 (e:Ac x w r h=r') (hc:Af h0 Q (Aj h1 r' k)):Af h0 Q (Aj h1 (Ac x w r h) k):=e ▸ hc
theorem zw:(∀ (r:OR) (h:H),Ac (.bool true) true r h=r)/\(∀ (r:OR) (h:H),Ac (.bool true) false r h=.ok (.Bl []) h)/\(∀ (r:OR) (h:H),Ac (.bool false) false r h=r)/\∀ (r:OR) (h:H),Ac (.bool false) true r h=.ok (.Bl []) h:=⟨fun _ _=>rfl,fun _ _=>rfl,fun _ _=>rfl,fun _ _=>rfl⟩
theorem zr (e:Ai h0 h) (hq:Q v h):Af h0 Q (.ok v h):=Cj e hq
theorem D3 (hc:Sx.Comes (k v h) Q):Sx.Comes (Aa (.ok v h) k) Q:=hc
theorem D4 (hc:Sx.Comes (k v (Ab h)) Q):Sx.Comes (Aj h0 (.ok v (Ab h)) k) Q:=comes_bindQ_noLog hc
theorem D5 (hc:Sx.Comes a Q):Sx.Comes (Ah (.bool true) a b) Q:=hc
theorem D6 (hc:Sx.Comes b Q):Sx.Comes (Ah (.bool false) a b) Q:=hc
theorem ya5 (hc:Sx.Comes (.ok v h) Q):Sx.Comes (.ok v h) Q:=hc
theorem ya6 (hq:wrote h0.nx h1.lg=[]) (hc:Sx.Comes (k v h1) Q):Sx.Comes (Aj h0 (.ok v h1) k) Q:=comes_bindQ_ok hq hc
theorem ya7 (ha:c=true->Sx.Comes a Q) (hb:c=false->Sx.Comes b Q):Sx.Comes (Ah (.bool c) a b) Q:=comes_cond ha hb
theorem yb1 (e:r=r') (hc:Sx.Comes (Aa r' k) Q):Sx.Comes (Aa r k) Q:=e ▸ hc
theorem yb2 (e:r=r') (hc:Sx.Comes (Aj h r' k) Q):Sx.Comes (Aj h r k) Q:=e ▸ hc
theorem yb3 (e:x=y) (hc:Sx.Comes (Ah y a b) Q):Sx.Comes (Ah x a b) Q:=e ▸ hc
theorem yb4 (e:De l h=r) (hc:Sx.Comes r Q):Sx.Comes (De l h) Q:=e ▸ hc
theorem yd1 (ht:c=true->Sx.Comes (Aa r k) Q) (hf:c=false->Sx.Comes (k (.Bl []) h) Q):Sx.Comes (Aa (Ac (.bool c) true r h) k) Q:=comes_want_t ht hf
theorem yd2 (ht:c=true->Sx.Comes (k (.Bl []) h) Q) (hf:c=false->Sx.Comes (Aa r k) Q):Sx.Comes (Aa (Ac (.bool c) false r h) k) Q:=comes_want_f ht hf
theorem yd3 (ht:c=true->Sx.Comes (Aj h0 r k) Q) (hf:c=false->Sx.Comes (Aj h0 (.ok (.Bl []) h) k) Q):Sx.Comes (Aj h0 (Ac (.bool c) true r h) k) Q:=comes_wantQ_t ht hf
theorem yd4 (ht:c=true->Sx.Comes (Aj h0 (.ok (.Bl []) h) k) Q) (hf:c=false->Sx.Comes (Aj h0 r k) Q):Sx.Comes (Aj h0 (Ac (.bool c) false r h) k) Q:=comes_wantQ_f ht hf
theorem xa1 (hc:B3 n h0 Q (k v h)):B3 n h0 Q (Aa (.ok v h) k):=hc
theorem xa2 (hc:B3 n h0 Q (k v (Ab h))):B3 n h0 Q (Aj h1 (.ok v (Ab h)) k):=gets_bindQ_noLog hc
theorem xa3 (hc:B3 n h0 Q a):B3 n h0 Q (Ah (.bool true) a b):=hc
theorem xa4 (hc:B3 n h0 Q b):B3 n h0 Q (Ah (.bool false) a b):=hc
theorem xa6 (hq:wrote h2.nx h1.lg=[]) (hc:B3 n h0 Q (k v h1)):B3 n h0 Q (Aj h2 (.ok v h1) k):=gets_bindQ_ok hq hc
theorem xb1 (e:r=r') (hc:B3 n h0 Q (Aa r' k)):B3 n h0 Q (Aa r k):=e ▸ hc
theorem xb2 (e:r=r') (hc:B3 n h0 Q (Aj h r' k)):B3 n h0 Q (Aj h r k):=e ▸ hc
theorem xb3 (e:x=y) (hc:B3 n h0 Q (Ah y a b)):B3 n h0 Q (Ah x a b):=e ▸ hc
end
variable {P:Program} {ctx:Ae} {gl:List GE}
theorem ctxO_soundL [Lim] {tab:Tab} (hc:A7 P P.globals.size ctx) (hok:glOk P.globals.size gl=true) (htab:∀ o∈tab.l,OrcOk P gl o):A7 P P.globals.size (ctxO gl tab ctx):=by
 refine ⟨?_,fun l args h h' v σ w args' e he=>hc.round l args h h' v σ w args' e he,ctxO_mono hc.mono,?_,hc.rpan⟩
 rotate_left
 . intro g args h h' v σ w args' he hb har hm hg hl hf
   have he':(Option.rec (motive:=fun _=>OR) (ctx.call g args h) (fun v=>orcV gl v h) (orcTry tab g args):OR)=.pan v h':=he
   cases ho:orcTry tab g args with
   |none=>rw [ho] at he';exact hc.pan g args h h' v σ w args' he' hb har hm hg hl hf
   |some u=>
    rw [ho] at he'
    rcases ite_pan he' with ⟨_,hq⟩|⟨_,hq⟩<;>cases hq
 intro g args h h' v σ w args' kind he hb har hm hg hl hf
 have he':(Option.rec (motive:=fun _=>OR) (ctx.call g args h) (fun v=>orcV gl v h) (orcTry tab g args):OR)=.ok v h':=he
 cases ho:orcTry tab g args with
 |none=>rw [ho] at he';exact hc.call g args h h' v σ w args' kind he' hb har hm hg hl hf
 |some u=>
  rw [ho] at he'
  obtain ⟨hgo,rfl,rfl⟩:=orcV_ok he'
  obtain ⟨o,q1,rfl,q4,rfl⟩:=orcTry_get ho
  obtain ⟨v',w',a',fn,r1,r2,r3,r4,r5,r6⟩:=htab o q1 w args' kind (ms_wok hm hg hok hgo) (fun σ'=>lesN_rel (leN_rel 8) args o.args args'.toList σ σ' q4 har)
  refine ⟨σ,v',w',a',fn,r1,r2 σ,⟨[],AStep.refl hm.ai,⟨Sle.refl σ,fun x e h1 h2=>(by rw [h1] at h2;cases h2),⟨hm.so.inj,fun x e hx=>Nat.lt_of_lt_of_le (hm.so.rng x e hx) r3.grow,hm.so.low⟩,r3.grow,fun c hc2 _=>r3.same c hc2,
   fun x e h1 h2=>(by rw [h1] at h2;cases h2),r3.io⟩,?_⟩,r4,r5,r6⟩
  intro x e hx
  exact Gb.congr (Sle.refl σ) (r3.same e.c (hm.so.rng x e hx)) (fun _ _ _ _ _ hh=>hh) (hm.ma x e hx)
variable {P:Program} {ctx:Ae} {gl:List GE}
theorem calls_gives (hmx:P.follows .mixedOrders=true) (hp:progOk P=true) (hc:∀ i:Lim,@A7 i P P.globals.size ctx) {g:FuncId} (hb:Ba P g=true) {args:List AV} {args':Array Value} {h:H} {σ:Dj} {w:World} {Q:AV->H->Prop}
 (hr:Sx.Af h Q (Fc P ctx g args h)) (hlg:h.lg=[]) (hσ:∀ b,h.nx<=b->σ b=none) (har:Bd σ args args'.toList) (hms:∀ i:Lim,h.nx<=@Bh i->@Ms i P.globals.size σ h w) (hg:GOk P.globals.size σ):
 Calls P g args' w fun e w'=>∃ v v' σ',e=.returned v'/\(∃ h',Q v h')/\Aq σ' v v'/\Kept w w':=by
 obtain ⟨v,h',he,hgr,hq⟩:=hr
 let i:Lim:=⟨h'.nx⟩
 have hl:h'.nx<=Bh:=Nat.le_refl _
 have hs:A7 P P.globals.size ⟨Fc P ctx,roundF P ctx⟩:=ctxS (hc i) hmx hp ⟨mono_callF (hc i).mono,mono_roundF (hc i).mono⟩
 have hfree:Fk σ h h':=fun b h1 _=>hσ b h1
 obtain ⟨σ',v',w',a',fn,q1,q2,q3,q4,q5,q6⟩:=hs.call g args h h' v σ w args' .normal he hb har (hms i (Nat.le_trans hgr.lo hl)) hg hl hfree
 obtain ⟨nw,s1,s2,s3⟩:=q3
 have hnw:h'.lg=nw:=by rw [s1.lg,hlg,List.append_nil]
 have hk:Kept w w':=by
  refine ⟨s2.grow,fun c hc2=>s2.frame c hc2 ?_,s2.io⟩
  intro x hx e hxe
  exfalso
  rcases hgr.lg x (by rw [hnw];exact hx) with h9|h9
  . rw [hlg] at h9
    cases h9
  . rw [hσ x h9] at hxe
    cases hxe
 intro cs
 obtain ⟨k',hst⟩:=q6 cs (.inl rfl)
 exact ⟨.returned v',w',_,⟨v,v',σ',rfl,⟨h',hq⟩,q2,hk⟩,hst,rfl,rfl,q4,rfl,fn,q1,q5⟩
noncomputable def litV:Value->AV
 |.bool b=>.bool b
 |.int k n=>.int k n
 |.string s=>.str (bytesOf s)
 |_=>.top
theorem litV_rel (σ:Dj) (v:Value):Aq σ (litV v) v:=by
 cases v<;>first|exact .bool _|exact .int _ _|exact .str _|exact .top _
theorem litV_list (σ:Dj) (l:List Value) (i:Nat) (x:AV) (y:Value) (hx:(l.map litV)[i]?=some x) (hy:l[i]?=some y):Aq σ x y:=by
 rw [List.getElem?_map,hy] at hx
 cases hx
 exact litV_rel σ y
variable {P:Program} {gl:List GE} {w:World} {B:List Nat} {a:Addr}
theorem rowAt_le {p:Program} {fits:TypeId->Bool} {d:Nat} {e:TypeId} {count off n:Nat} (h:rowAt p fits d e count off n=true):off<=count * p.cellsOf e:=by
 cases d with
 |zero=>simp [rowAt] at h
 |succ d=>
  by_cases hs:p.cellsOf e=0
  . simp [rowAt,hs] at h
  . unfold rowAt at h
    simp only [hs,if_false] at h
    have h1:=Nat.div_add_mod off (p.cellsOf e)
    have h2:=Nat.mod_lt off (Nat.pos_of_ne_zero hs)
    have h3:off / p.cellsOf e<count\/(off / p.cellsOf e<=count/\off % p.cellsOf e=0):=by
     rcases Bool.or_eq_true_iff.1 h with h|h
     . simp only [Bool.and_eq_true,beq_iff_eq,decide_eq_true_eq] at h
       exact .inr ⟨by omega,h.1.1⟩
     . rw [Bool.and_eq_true,decide_eq_true_eq] at h
       exact .inl h.1
    rcases h3 with h3|⟨h3,h4⟩
    . have:=Nat.mul_le_mul_left (p.cellsOf e) (show off / p.cellsOf e+1<=count by omega)
      rw [Nat.mul_add,Nat.mul_one] at this
      rw [Nat.mul_comm count]
      omega
    . have:=Nat.mul_le_mul_left (p.cellsOf e) h3
      rw [Nat.mul_comm count]
      omega
theorem liesAt_le {p:Program}:∀ (d:Nat) {e:TypeId} {count off:Nat} {u:TypeId} {n:Nat},liesAt p d e count off u n=true->off<=count * p.cellsOf e
 |0,_,_,_,_,_,h=>by simp [liesAt] at h
 |d+1,e,count,off,u,n,h=>by
  unfold liesAt at h
  rcases Bool.or_eq_true_iff.1 h with h|h
  . exact rowAt_le h
  . split at h
    . exact liesAt_le d h
    . cases h
def Lead (w:World) (a:Addr):Prop:=a.spot=none/\∃ (arr:Array Value) (t:TypeId) (lo hi:Nat),w.heap[a.block]?=some (.cells arr t (lo,hi))/\a.off<=arr.size
theorem has_leads {r:Reach} {base n:Nat} {e:TypeId} (h:World.has P w r base a e n):Lead w a:=by
 obtain ⟨_,hs,row,cells,hsh,hl⟩:=h
 unfold World.shape? at hsh
 split at hsh
 . rename_i c elem fr hg
   cases hsh
   exact ⟨hs,c,_,fr.1,fr.2,hg,Nat.le_trans (liesAt_le _ hl) (Nat.div_mul_le_self _ _)⟩
 . cases hsh
theorem okWide_leads {r:Reach} {base len cap:Nat} {t:TypeId} (h:Cell.okWide P w r base t (.slice (some a) len cap)):Lead w a:=by
 unfold Cell.okWide at h
 split at h<;>first|(rename_i h0;cases h0;done)|skip
 all_goals
  unfold Cell.ok at h
  split at h<;>first|(rename_i h0;cases h0;done)|skip
  all_goals first|exact h.elim|(rename_i h0;cases h0;exact has_leads h.2.2)
theorem addr_off (ha:a.spot=none) (n:Nat):a.add n=⟨a.block,a.off+n,none⟩:=by
 unfold Addr.add
 split
 . rename_i h0
   subst h0
   cases a
   simp at ha ⊢
   exact ha
 . rfl
theorem cells_at {arr:Array Value} {t:TypeId} {fr:Nat × Nat} {k s:Nat} {cs:List Value} (ha:a.spot=none) (hg:w.heap[a.block]?=some (.cells arr t fr)) (h:w.cells? 0 (a.add k) s=some cs):
 cs=(arr.toList.drop (a.off+k)).take s/\(0<s->a.off+k+s<=arr.size):=by
 obtain ⟨_,hl,hc⟩:=World.cells?_some h
 have hcell:∀ i,i<s->arr[a.off+k+i]?=cs[i]?:=by
  intro i hi
  rw [<- hc i hi,addr_off ha,addr_off rfl]
  unfold World.cell?
  simp only [hg]
  rfl
 refine ⟨?_,fun hs=>?_⟩
 . apply List.ext_getElem?
   intro i
   rw [List.getElem?_take]
   split
   . rename_i hi
     rw [List.getElem?_drop,<- hcell i hi]
     simp
   . rw [List.getElem?_eq_none (by omega)]
 . have h1:=hcell (s - 1) (by omega)
   rw [List.getElem?_eq_getElem (by omega)] at h1
   have h2:=(Array.getElem?_eq_some_iff.1 h1).1
   omega
theorem take_flat {α:Type} {f:α->List AV} {s:Nat} (cs:List AV) (off:Nat) (D:Nat->α):∀ (len:Nat),(∀ i,i<len->(cs.drop (off+i * s)).take s=f (D i))->(cs.drop off).take (len * s)=((List.range len).map D).flatMap f
 |0,_=>by simp
 |len+1,h=>by
  rw [List.range_succ,List.map_append,List.flatMap_append,<- take_flat cs off D len (fun i hi=>h i (by omega)),Nat.add_mul,Nat.one_mul,List.take_add,List.drop_drop,h len (by omega)]
  simp
noncomputable def litC (w:World) (b:Nat):List AV:=match w.heap[b]? with|some (.cells arr _ _)=>arr.toList.map litV|_=>[]
def litT (w:World) (b:Nat):TypeId:=match w.heap[b]? with|some (.cells _ t _)=>t|_=>0
def litN (w:World) (b:Nat):Nat:=match w.heap[b]? with|some (.cells arr _ _)=>arr.size|_=>0
noncomputable def takeM (w:World) (m:KM):List Nat->KM
 |[]=>m
 |b::B=>((takeM w m B).set b (.cells (litC w b) (litT w b) (.fz (w.heap.size+b)))).set (w.heap.size+b) (.ctr 0)
theorem takeM_lo {m:KM}:∀ (B:List Nat),(∀ b∈B,b<w.heap.size)->∀ j,j<w.heap.size->(takeM w m B).get j=if j∈B then .cells (litC w j) (litT w j) (.fz (w.heap.size+j)) else m.get j
 |[],_,j,_=>by simp [takeM]
 |b::B,hB,j,hj=>by
  have hb:=hB b (by simp)
  unfold takeM
  rw [KM.get_set1,if_neg (by omega),KM.get_set1,takeM_lo B (fun x hx=>hB x (by simp [hx])) j hj]
  by_cases h1:j=b
  . subst h1;simp
  . rw [if_neg h1];simp [h1]
theorem takeM_hi {m:KM}:∀ (B:List Nat),(∀ b∈B,b<w.heap.size)->∀ j,(takeM w m B).get (w.heap.size+j)=if j∈B then .ctr 0 else m.get (w.heap.size+j)
 |[],_,j=>by simp [takeM]
 |b::B,hB,j=>by
  have hb:=hB b (by simp)
  unfold takeM
  rw [KM.get_set1,KM.get_set1,takeM_hi B (fun x hx=>hB x (by simp [hx])) j]
  by_cases h1:j=b
  . subst h1;simp
  . rw [if_neg (by omega),if_neg (by omega)];simp [h1]
noncomputable def takeS (G:Nat) (w:World) (B:List Nat):Dj:=fun j=>if j∈B then some ⟨j,litN w j,some (w.heap.size+j)⟩ else sig0 G w j
noncomputable def takeH (gl:List GE) (w:World) (B:List Nat):H:=⟨takeM w (glM gl) B,w.heap.size+w.heap.size,[]⟩
def Blocks (gl:List GE) (w:World) (B:List Nat):Prop:=∀ b∈B,(∃ (arr:Array Value) (t:TypeId) (lo hi:Nat),w.heap[b]?=some (.cells arr t (lo,hi)))/\∀ e∈gl,e.g≠b
theorem Blocks.lt (hB:Blocks gl w B):∀ b∈B,b<w.heap.size:=fun b hb=>by
 obtain ⟨⟨arr,t,lo,hi,h1⟩,_⟩:=hB b hb
 exact Dd h1
theorem takeS_some {G b:Nat} {e:SE} (hh:takeS G w B b=some e):(b∈B/\e=⟨b,litN w b,some (w.heap.size+b)⟩)\/(b ∉ B/\sig0 G w b=some e):=by
 unfold takeS at hh
 split at hh
 . rename_i hb
   cases hh
   exact .inl ⟨hb,rfl⟩
 . rename_i hb
   exact .inr ⟨hb,hh⟩
theorem takeS_at {G b:Nat} {e:SE} (hh:takeS G w B b=some e):e.c=b:=by
 rcases takeS_some hh with ⟨_,rfl⟩|⟨_,h1⟩
 . rfl
 . exact (F8 h1).2.1
theorem glM_far (hok:glOk P.globals.size gl=true) {j:Nat} (hj:P.globals.size<=j):(glM gl).get j=.none:=by
 let i:Lim:=⟨j+1+P.globals.size⟩
 rcases @glM_get i P.globals.size (by show P.globals.size<=j+1+P.globals.size;omega) gl hok j (by show j<j+1+P.globals.size;omega) with ⟨e,h1,h2,_⟩|⟨_,h1⟩
 . have:=(glOk_get hok e h1).1
   omega
 . exact h1
theorem take_ms [Lim] (hw:WOk P gl w) (hok:glOk P.globals.size gl=true) (hB:Blocks gl w B) (hl:w.heap.size+w.heap.size<=Bh):Ms P.globals.size (takeS P.globals.size w B) (takeH gl w B) w:=by
 have hsz:=hw.size
 have hlt:=hB.lt
 have hn:P.globals.size<=Bh:=by omega
 have lo:=fun j hj=>takeM_lo (m:=glM gl) B hlt j hj
 have hi:=fun j=>takeM_hi (m:=glM gl) B hlt j
 have far:∀ j,(glM gl).get (w.heap.size+j)=.none:=fun j=>glM_far hok (by omega)
 have low:=(wok_ms hw hn hok).1.ma
 have gcase:=glM_get hn gl hok
 have what:∀ j,j<Bh->(j∈B/\j<w.heap.size/\(takeM w (glM gl) B).get j=.cells (litC w j) (litT w j) (.fz (w.heap.size+j)))\/(∃ e∈gl,e.g=j/\(takeM w (glM gl) B).get j=.cells e.l e.t .exact)\/((takeM w (glM gl) B).get j=.none)\/((takeM w (glM gl) B).get j=.ctr 0):=by
  intro j hj
  by_cases h1:j<w.heap.size
  . rw [lo j h1]
    by_cases h2:j∈B
    . rw [if_pos h2];exact .inl ⟨h2,h1,rfl⟩
    . rw [if_neg h2]
      rcases gcase j hj with ⟨e,q1,q2,q3⟩|⟨_,q⟩
      . exact .inr (.inl ⟨e,q1,q2,q3⟩)
      . exact .inr (.inr (.inl q))
  . obtain ⟨k,rfl⟩:∃ k,j=w.heap.size+k:=⟨j - w.heap.size,by omega⟩
    rw [hi k]
    by_cases h2:k∈B
    . rw [if_pos h2];exact .inr (.inr (.inr rfl))
    . rw [if_neg h2];exact .inr (.inr (.inl (far k)))
 refine ⟨⟨hl,?_,?_,?_,?_,?_⟩,⟨?_,?_,?_⟩,?_⟩
 . intro j h1 h2
   have h1':w.heap.size+w.heap.size<=j:=h1
   obtain ⟨k,rfl⟩:∃ k,j=w.heap.size+k:=⟨j - w.heap.size,by omega⟩
   show (takeM w (glM gl) B).get (w.heap.size+k)=.none
   rw [hi k,if_neg (fun hk=>by have:=hlt k hk;omega)]
   exact far k
 . intro j k h1 h2
   have h2':D9 ((takeM w (glM gl) B).get j)=some k:=h2
   rcases what j h1 with ⟨q1,q0,q2⟩|⟨e,_,_,q2⟩|q2|q2
   . rw [q2] at h2'
     cases h2'
     refine ⟨by show w.heap.size+j<w.heap.size+w.heap.size;omega,0,?_⟩
     show (takeM w (glM gl) B).get (w.heap.size+j)=.ctr 0
     rw [hi j,if_pos q1]
   . rw [q2] at h2';cases h2'
   . rw [q2] at h2';cases h2'
   . rw [q2] at h2';cases h2'
 . intro j j' k h1 h2 h3 h4
   have h3':tipOf ((takeM w (glM gl) B).get j)=some k:=h3
   have h4':tipOf ((takeM w (glM gl) B).get j')=some k:=h4
   rcases what j h1 with ⟨q1,q0,q2⟩|⟨e,_,_,q2⟩|q2|q2
   . rw [q2] at h3'
     cases h3'
     rcases what j' h2 with ⟨r1,r0,r2⟩|⟨e,_,_,r2⟩|r2|r2
     . rw [r2] at h4'
       have h5:w.heap.size+j'=w.heap.size+j:=Option.some.inj h4'
       omega
     . rw [r2] at h4';cases h4'
     . rw [r2] at h4';cases h4'
     . rw [r2] at h4';cases h4'
   . rw [q2] at h3';cases h3'
   . rw [q2] at h3';cases h3'
   . rw [q2] at h3';cases h3'
 . intro j l t k st n h1 h2
   have h2':(takeM w (glM gl) B).get j=.cells l t (.old k st):=h2
   rcases what j h1 with ⟨q1,q0,q2⟩|⟨e,_,_,q2⟩|q2|q2
   all_goals rw [q2] at h2';cases h2'
 . intro j j' l t k st l' t' h1 h2 h3
   have h3':(takeM w (glM gl) B).get j=.cells l t (.old k st):=h3
   rcases what j h1 with ⟨q1,q0,q2⟩|⟨e,_,_,q2⟩|q2|q2
   all_goals rw [q2] at h3';cases h3'
 . intro b b' e e' h1 h2 h3
   have q1:=takeS_at h1
   have q2:=takeS_at h2
   exact .inl (by omega)
 . intro b e h1
   rcases takeS_some h1 with ⟨q1,rfl⟩|⟨_,q⟩
   . exact hlt b q1
   . have:=F8 q;omega
 . intro b e h1
   rcases takeS_some h1 with ⟨q1,rfl⟩|⟨_,q⟩
   . have:=hlt b q1;omega
   . have:=F8 q;omega
 . intro b e h1
   show Gb _ _ (takeM w (glM gl) B).get e w ((takeM w (glM gl) B).get b)
   rcases takeS_some h1 with ⟨q1,rfl⟩|⟨q0,q⟩
   . rw [lo b (hlt b q1),if_pos q1]
     obtain ⟨⟨arr,t,lo',hi',h2⟩,_⟩:=hB b q1
     have e1:litC w b=arr.toList.map litV:=by unfold litC;rw [h2]
     have e2:litT w b=t:=by unfold litT;rw [h2]
     have e3:litN w b=arr.size:=by unfold litN;rw [h2]
     refine ⟨rfl,fun _=>⟨arr,lo',hi',by rw [e2];exact h2,e3.symm,by show (litC w b).length<=litN w b;rw [e1,e3];simp,?_,(fun hh=>by cases hh),fun (hh:False)=>hh.elim⟩⟩
     intro i x y hx hy
     rw [e1] at hx
     exact litV_list _ arr.toList i x y hx (by simpa using hy)
   . have hb:=(F8 q).1
     rw [lo b (by omega),if_neg q0]
     have h2:=low b e q
     have h3:Gb P.globals.size (sig0 P.globals.size w) (glM gl).get e w ((glM gl).get b):=h2
     rcases gcase b (by omega) with ⟨ge,p1,p2,p3⟩|⟨_,p3⟩
     . rw [p3] at h3 ⊢
       obtain ⟨h4,h5⟩:=h3
       refine ⟨h4,fun _=>?_⟩
       obtain ⟨arr,lo',hi',r1,r2,r3,r4,r5⟩:=h5 trivial
       refine ⟨arr,lo',hi',r1,r2,r3,fun i x y hx hy=>?_,r5⟩
       exact flatV_rel (List.all_eq_true.1 (glOk_get hok ge p1).2 x (List.mem_of_getElem? hx)) (r4 i x y hx hy) _
     . rw [p3];trivial
theorem take_gok {G:Nat}:GOk G (takeS G w B):=by
 intro g hg
 by_cases h1:g∈B
 . exact ⟨_,if_pos h1,rfl⟩
 . exact ⟨⟨g,_,none⟩,by unfold takeS;rw [if_neg h1];exact if_pos hg,rfl⟩
theorem take_free {G:Nat} (hG:G<=w.heap.size) (hB:Blocks gl w B) (b:Nat) (hb:(takeH gl w B).nx<=b):takeS G w B b=none:=by
 have hb':w.heap.size+w.heap.size<=b:=hb
 unfold takeS
 rw [if_neg (fun h=>by have:=hB.lt b h;omega)]
 unfold sig0
 rw [if_neg (by omega)]
theorem globOk_same {h h1:H}:∀ (gl:List GE),(∀ e∈gl,h1.m.get e.g=h.m.get e.g)->Gs gl h=true->Gs gl h1=true
 |[],_,_=>rfl
 |e::gl,hs,ho=>by
  have hg:=hs e (List.mem_cons_self ..)
  unfold Gs at ho ⊢
  rw [hg]
  revert ho
  cases h.m.get e.g with
  |cells l t k=>
   cases k with
   |exact=>
    intro ho
    dsimp only at ho ⊢
    rcases Bool.eq_false_or_eq_true (avsEq l e.l) with a1|a1
    . rw [a1] at ho ⊢
      rcases Bool.eq_false_or_eq_true (Nat.beq t e.t) with a2|a2
      . rw [a2] at ho ⊢
        exact globOk_same gl (fun e he=>hs e (List.mem_cons_of_mem _ he)) ho
      . rw [a2] at ho;cases ho
    . rw [a1] at ho;cases ho
   |fz c=>intro ho;cases ho
   |Fz c=>intro ho;cases ho
   |old c st=>intro ho;cases ho
  |_=>intro ho;cases ho
theorem take_glob (hw:WOk P gl w) (hok:glOk P.globals.size gl=true) (hB:Blocks gl w B) (ho:Gs gl (glH gl P.globals.size)=true):Gs gl (takeH gl w B)=true:=by
 refine globOk_same gl (fun e he=>?_) ho
 have h1:=(glOk_get hok e he).1
 have:=hw.size
 show (takeM w (glM gl) B).get e.g=(glM gl).get e.g
 rw [takeM_lo B hB.lt e.g (by omega),if_neg (fun hb=>(hB e.g hb).2 e he rfl)]
theorem flat_lit {σ:Dj} {x:AV} {y:Value} (hf:flatV x=true) (h:Aq σ x y):x=litV y:=by
 cases h<;>first|(cases hf;done)|rfl
theorem take_cont (hw:WOk P gl w) (hok:glOk P.globals.size gl=true) (hB:Blocks gl w B) {b:Nat} {arr:Array Value} {t:TypeId} {fr:Nat × Nat} (hg:w.heap[b]?=some (.cells arr t fr)) (hb:b∈B\/∃ e∈gl,e.g=b):
 Sx.Cont (takeH gl w B) b (arr.toList.map litV)/\∃ e:SE,takeS P.globals.size w B b=some e/\e.c=b:=by
 have hlt:=Dd hg
 have hnx:b<w.heap.size+w.heap.size:=by omega
 rcases hb with hb|⟨ge,h1,h2⟩
 . have e1:litC w b=arr.toList.map litV:=by unfold litC;rw [hg]
   refine ⟨⟨hnx,litT w b,.fz (w.heap.size+b),?_,trivial⟩,_,if_pos hb,rfl⟩
   show (takeM w (glM gl) B).get b=_
   rw [takeM_lo B hB.lt b hlt,if_pos hb,e1]
 . subst h2
   have hnb:ge.g ∉ B:=fun hb=>(hB ge.g hb).2 ge h1 rfl
   obtain ⟨h3,h4⟩:=glOk_get hok ge h1
   obtain ⟨arr',lo,hi,q1,_,q3⟩:=hw.vars ge h1
   rw [hg] at q1
   cases q1
   have e1:ge.l=arr.toList.map litV:=by
    have q4:=q3 (fun _=>none)
    apply List.ext_getElem?
    intro i
    rw [List.getElem?_map]
    by_cases hi:i<ge.l.length
    . have hi2:i<arr.toList.length:=by rw [<- q4.1];exact hi
      rw [List.getElem?_eq_getElem hi,List.getElem?_eq_getElem hi2]
      have q5:=q4.2 i _ _ (List.getElem?_eq_getElem hi) (List.getElem?_eq_getElem hi2)
      exact congrArg some (flat_lit (List.all_eq_true.1 h4 _ (List.getElem_mem hi)) q5)
    . have hi2:¬ i<arr.toList.length:=by rw [<- q4.1];exact hi
      rw [List.getElem?_eq_none (by omega),List.getElem?_eq_none (by omega)]
      rfl
   have hcell:(takeM w (glM gl) B).get ge.g=.cells ge.l ge.t .exact:=by
    rw [takeM_lo B hB.lt ge.g hlt,if_neg hnb]
    let i:Lim:=⟨P.globals.size⟩
    rcases @glM_get i P.globals.size (Nat.le_refl _) gl hok ge.g h3 with ⟨e',r1,r2,r3⟩|⟨r1,_⟩
    . obtain ⟨arr2,lo2,hi2,s1,_,s3⟩:=hw.vars e' r1
      rw [r2,hg] at s1
      have s2:arr=arr2/\ge.t=e'.t:=by
       have s4:=Option.some.inj s1
       injection s4 with s5 s6
       exact ⟨s5,s6⟩
      obtain ⟨rfl,ht⟩:=s2
      rw [r3]
      have q4:=q3 (fun _=>none)
      have s4:=s3 (fun _=>none)
      have hl2:e'.l=ge.l:=by
       rw [e1]
       apply List.ext_getElem?
       intro i
       rw [List.getElem?_map]
       by_cases hi:i<e'.l.length
       . have hi2:i<arr.toList.length:=by rw [<- s4.1];exact hi
         rw [List.getElem?_eq_getElem hi,List.getElem?_eq_getElem hi2]
         exact congrArg some (flat_lit (List.all_eq_true.1 (glOk_get hok e' r1).2 _ (List.getElem_mem hi)) (s4.2 i _ _ (List.getElem?_eq_getElem hi) (List.getElem?_eq_getElem hi2)))
       . have hi2:¬ i<arr.toList.length:=by rw [<- s4.1];exact hi
         rw [List.getElem?_eq_none (by omega),List.getElem?_eq_none (by omega)]
         rfl
      rw [hl2,ht]
    . exact absurd rfl (r1 ge h1)
   refine ⟨⟨hnx,ge.t,.exact,?_,trivial⟩,⟨ge.g,(match w.heap[ge.g]? with|some (.cells arr _ _)=>arr.size|_=>0),none⟩,?_,rfl⟩
   . show (takeM w (glM gl) B).get ge.g=_
     rw [hcell,e1]
   . unfold takeS
     rw [if_neg hnb]
     unfold sig0
     exact if_pos h3
theorem take_list {α:Type} {f:α->List AV} {s:Nat} (hs:0<s) (hw:WOk P gl w) (hok:glOk P.globals.size gl=true) (hB:Blocks gl w B) (hld:Lead w a) (hb:a.block∈B\/∃ e∈gl,e.g=a.block) {len cap:Nat} (hle:len<=cap)
 (hel:∀ i,i<cap->∃ (x:α) (cs:List Value),w.cells? 0 (a.add (i * s)) s=some cs/\cs.map litV=f x):
 ∃ l:List α,l.length=len/\Sx.SlF s f (takeH gl w B) (.sl a.block a.off len cap s true) l/\Aq (takeS P.globals.size w B) (.sl a.block a.off len cap s true) (.slice (some a) len cap):=by
 obtain ⟨ha,arr,t,lo,hi,hg,ho⟩:=hld
 obtain ⟨hc,e,he,hec⟩:=take_cont hw hok hB hg hb
 have hroom:a.off+len * s<=arr.size:=by
  cases len with
  |zero=>omega
  |succ n=>
   obtain ⟨x,cs,h1,_⟩:=hel n (by omega)
   have:=(cells_at ha hg h1).2 hs
   rw [Nat.add_mul,Nat.one_mul]
   omega
 have hrel:Aq (takeS P.globals.size w B) (.sl a.block a.off len cap s true) (.slice (some a) len cap):=by
  obtain ⟨b,o,sp⟩:=a
  simp only at ha hec he
  subst ha
  subst hec
  exact Aq.sl e.c o len cap s true e cap he hle (Nat.le_refl _) (fun _=>rfl) (fun hh=>by cases hh)
 suffices h:∃ l:List α,l.length=len/\((arr.toList.map litV).drop a.off).take (len * s)=l.flatMap f by
  obtain ⟨l,h1,h2⟩:=h
  refine ⟨l,h1,.inr ⟨a.block,a.off,cap,true,arr.toList.map litV,?_,?_,hc,?_,?_⟩,hrel⟩
  . rw [h1]
  . rw [h1];exact hle
  . rw [h1];simpa using hroom
  . rw [h1];exact h2
 by_cases h0:len=0
 . subst h0
   exact ⟨[],rfl,by simp⟩
 . obtain ⟨x0,_⟩:=hel 0 (by omega)
   have hx:∀ i,∃ x:α,i<len->((arr.toList.map litV).drop (a.off+i * s)).take s=f x:=by
    intro i
    by_cases hi:i<len
    . obtain ⟨x,cs,h1,h2⟩:=hel i (by omega)
      refine ⟨x,fun _=>?_⟩
      rw [<- h2,(cells_at ha hg h1).1,List.map_take,List.map_drop]
    . exact ⟨x0,fun hh=>absurd hh hi⟩
   exact ⟨(List.range len).map fun i=>Classical.choose (hx i),by simp,take_flat _ _ _ len (fun i hi=>Classical.choose_spec (hx i) hi)⟩
section
variable {H:Type} {enc:TypeId × Value->H} {P:Program} {W W':World}
theorem Kept.sameAt (hk:Kept W W') {p:MemPlace} (hp:p.block<W.heap.size):W.sameAt W' p:=by
 cases p with
 |cell b off=>
  show W'.cell? ⟨b,off,none⟩=W.cell? ⟨b,off,none⟩
  unfold World.cell?
  simp only [hk.same b hp]
 |map b=>exact hk.same b hp
theorem kept_all (hk:Kept W W') {sp:Nat->Bool}:∀ {ts:List TypeId} {vs:List Value} {ds:List (DataW H)} {ps:List MemPlace},(∀ p∈ps,p.block<W.heap.size)->DataW.TrodAll enc P W 0 sp true ts vs ds ps->DataW.TrodAll enc P W' 0 sp true ts vs ds ps
 |[],[],[],_,_,h=>h
 |_::_,_::_,_::_,_,hs,⟨p,q,⟨n,h1⟩,h2,e⟩=>⟨p,q,⟨n,DataW.trod_carry n _ _ _ h1 (fun x hx=>hk.sameAt (hs x (by rw [e];exact List.mem_append_left _ hx)))⟩,kept_all hk (fun x hx=>hs x (by rw [e];exact List.mem_append_right _ hx)) h2,e⟩
theorem args_kept (hl:laidOutB P=true) (hm:mapsRowed P=true) (hz:((List.range P.types.size).all fun t=>match P.underlying t with|some (.slice e)=>decide (0<P.cellsOf e)|_=>true)=true) (hk:Kept W W')
 {ts:List TypeId} {vs:List Value} {ds:List (DataW H)} {ps:List MemPlace} (ht:∀ t∈ts,t<P.types.size) (h:DataW.TrodAll enc P W 0 (fun _=>true) true ts vs ds ps):
 DataW.TrodAll enc P W' 0 (fun b=>decide (b<W.heap.size)) true ts vs ds ps:=by
 have hlt:=h.lt
 exact kept_all hk hlt (DataW.TrodAll.respare (kids_rows hl hm) (slices_full_of P hz) ht h (fun p hp=>decide_eq_true (hlt p hp)))
end
end Go.Ev
