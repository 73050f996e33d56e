/- How an abstract state stands for a state of the model. -/
import GoSem.Dispatch
import Derived.Calls
set_option linter.all false
noncomputable section
namespace Go.Ev
theorem om {p:Prop} (q:p:=by omega):p:=q
theorem df {p:Prop} [Decidable p] (q:¬ p:=by omega):decide p=false:=decide_eq_false q
theorem dt {p:Prop} [Decidable p] (q:p:=by omega):decide p=true:=decide_eq_true q
inductive AV where
 |top
 |bool (b:Bool)
 |int (k:IntKind) (n:Int)
 |str (s:List Nat)
 |Ob
 |ptr (b off:Nat)
 |Bv
 |sl (b off len cap sz:Nat) (ex:Bool)
 |Td
 |map (r:Nat)
 |fn (f:Fn) (first cap:List AV)
 |Iy
 |I6 (t:TypeId) (v:AV)
 |B3
 |agg (cs:List AV)
 |Bj (vs:List AV)
inductive CK where
 |exact
 |fz (N3:Nat)
 |Gt (N3:Nat)
 |Cf (N3 Tx:Nat)
inductive D8 where
 |d0|d1|d2|d3|d4|d5|d6|d7
inductive On where
 |d0|d1|d2|d3|d4|d5|d6|d7|d8|d9|d10|d11|d12|d13|d14|d15
def A7X (_:Nat):On:=.d15
def A7W (n:Nat):On:=Nat.rec (motive:=λ_=>On) .d14 (λm _=>A7X m) n
def A7V (n:Nat):On:=Nat.rec (motive:=λ_=>On) .d13 (λm _=>A7W m) n
def A7U (n:Nat):On:=Nat.rec (motive:=λ_=>On) .d12 (λm _=>A7V m) n
def A7T (n:Nat):On:=Nat.rec (motive:=λ_=>On) .d11 (λm _=>A7U m) n
def A7S (n:Nat):On:=Nat.rec (motive:=λ_=>On) .d10 (λm _=>A7T m) n
def eg9 (n:Nat):On:=Nat.rec (motive:=λ_=>On) .d9 (λm _=>A7S m) n
def eg8 (n:Nat):On:=Nat.rec (motive:=λ_=>On) .d8 (λm _=>eg9 m) n
def eg7 (n:Nat):On:=Nat.rec (motive:=λ_=>On) .d7 (λm _=>eg8 m) n
def eg6 (n:Nat):On:=Nat.rec (motive:=λ_=>On) .d6 (λm _=>eg7 m) n
def eg5 (n:Nat):On:=Nat.rec (motive:=λ_=>On) .d5 (λm _=>eg6 m) n
def eg4 (n:Nat):On:=Nat.rec (motive:=λ_=>On) .d4 (λm _=>eg5 m) n
def eg3 (n:Nat):On:=Nat.rec (motive:=λ_=>On) .d3 (λm _=>eg4 m) n
def eg2 (n:Nat):On:=Nat.rec (motive:=λ_=>On) .d2 (λm _=>eg3 m) n
def eg1 (n:Nat):On:=Nat.rec (motive:=λ_=>On) .d1 (λm _=>eg2 m) n
def eg0 (n:Nat):On:=Nat.rec (motive:=λ_=>On) .d0 (λm _=>eg1 m) n
abbrev Xl:Nat->On:=eg0
def dg7 (_:Nat):D8:=.d7
def dg6 (n:Nat):D8:=Nat.rec (motive:=λ_=>D8) .d6 (λm _=>dg7 m) n
def dg5 (n:Nat):D8:=Nat.rec (motive:=λ_=>D8) .d5 (λm _=>dg6 m) n
def dg4 (n:Nat):D8:=Nat.rec (motive:=λ_=>D8) .d4 (λm _=>dg5 m) n
def dg3 (n:Nat):D8:=Nat.rec (motive:=λ_=>D8) .d3 (λm _=>dg4 m) n
def dg2 (n:Nat):D8:=Nat.rec (motive:=λ_=>D8) .d2 (λm _=>dg3 m) n
def dg1 (n:Nat):D8:=Nat.rec (motive:=λ_=>D8) .d1 (λm _=>dg2 m) n
def dg0 (n:Nat):D8:=Nat.rec (motive:=λ_=>D8) .d0 (λm _=>dg1 m) n
abbrev V8:Nat->D8:=dg0
instance:DecidableEq D8:=λa b=>by cases a<;>cases b<;>first|exact isTrue rfl|exact isFalse (λh=>by cases h)
instance:DecidableEq On:=λa b=>by cases a<;>cases b<;>first|exact isTrue rfl|exact isFalse (λh=>by cases h)
structure L1 where
 (a0 a1 a2 a3 a4 a5 a6 a7 a8 a9 I9 Ja a12 Jb Jc Jd:AV)
def L1.L4 (d:On):L1->AV:=On.rec (motive:=λ_=>L1->AV) L1.a0 L1.a1 L1.a2 L1.a3 L1.a4 L1.a5 L1.a6 L1.a7 L1.a8 L1.a9 L1.I9 L1.Ja L1.a12 L1.Jb L1.Jc L1.Jd d
def L1.u0 (s:L1):AV->L1:=L1.rec (motive:=λ_=>AV->L1) (λ_ a1 a2 a3 a4 a5 a6 a7 a8 a9 I9 Ja a12 Jb Jc Jd v=>⟨v,a1,a2,a3,a4,a5,a6,a7,a8,a9,I9,Ja,a12,Jb,Jc,Jd⟩) s
def L1.u1 (s:L1):AV->L1:=L1.rec (motive:=λ_=>AV->L1) (λa0 _ a2 a3 a4 a5 a6 a7 a8 a9 I9 Ja a12 Jb Jc Jd v=>⟨a0,v,a2,a3,a4,a5,a6,a7,a8,a9,I9,Ja,a12,Jb,Jc,Jd⟩) s
def L1.u2 (s:L1):AV->L1:=L1.rec (motive:=λ_=>AV->L1) (λa0 a1 _ a3 a4 a5 a6 a7 a8 a9 I9 Ja a12 Jb Jc Jd v=>⟨a0,a1,v,a3,a4,a5,a6,a7,a8,a9,I9,Ja,a12,Jb,Jc,Jd⟩) s
def L1.u3 (s:L1):AV->L1:=L1.rec (motive:=λ_=>AV->L1) (λa0 a1 a2 _ a4 a5 a6 a7 a8 a9 I9 Ja a12 Jb Jc Jd v=>⟨a0,a1,a2,v,a4,a5,a6,a7,a8,a9,I9,Ja,a12,Jb,Jc,Jd⟩) s
def L1.u4 (s:L1):AV->L1:=L1.rec (motive:=λ_=>AV->L1) (λa0 a1 a2 a3 _ a5 a6 a7 a8 a9 I9 Ja a12 Jb Jc Jd v=>⟨a0,a1,a2,a3,v,a5,a6,a7,a8,a9,I9,Ja,a12,Jb,Jc,Jd⟩) s
def L1.u5 (s:L1):AV->L1:=L1.rec (motive:=λ_=>AV->L1) (λa0 a1 a2 a3 a4 _ a6 a7 a8 a9 I9 Ja a12 Jb Jc Jd v=>⟨a0,a1,a2,a3,a4,v,a6,a7,a8,a9,I9,Ja,a12,Jb,Jc,Jd⟩) s
def L1.u6 (s:L1):AV->L1:=L1.rec (motive:=λ_=>AV->L1) (λa0 a1 a2 a3 a4 a5 _ a7 a8 a9 I9 Ja a12 Jb Jc Jd v=>⟨a0,a1,a2,a3,a4,a5,v,a7,a8,a9,I9,Ja,a12,Jb,Jc,Jd⟩) s
def L1.u7 (s:L1):AV->L1:=L1.rec (motive:=λ_=>AV->L1) (λa0 a1 a2 a3 a4 a5 a6 _ a8 a9 I9 Ja a12 Jb Jc Jd v=>⟨a0,a1,a2,a3,a4,a5,a6,v,a8,a9,I9,Ja,a12,Jb,Jc,Jd⟩) s
def L1.u8 (s:L1):AV->L1:=L1.rec (motive:=λ_=>AV->L1) (λa0 a1 a2 a3 a4 a5 a6 a7 _ a9 I9 Ja a12 Jb Jc Jd v=>⟨a0,a1,a2,a3,a4,a5,a6,a7,v,a9,I9,Ja,a12,Jb,Jc,Jd⟩) s
def L1.u9 (s:L1):AV->L1:=L1.rec (motive:=λ_=>AV->L1) (λa0 a1 a2 a3 a4 a5 a6 a7 a8 _ I9 Ja a12 Jb Jc Jd v=>⟨a0,a1,a2,a3,a4,a5,a6,a7,a8,v,I9,Ja,a12,Jb,Jc,Jd⟩) s
def L1.u10 (s:L1):AV->L1:=L1.rec (motive:=λ_=>AV->L1) (λa0 a1 a2 a3 a4 a5 a6 a7 a8 a9 _ Ja a12 Jb Jc Jd v=>⟨a0,a1,a2,a3,a4,a5,a6,a7,a8,a9,v,Ja,a12,Jb,Jc,Jd⟩) s
def L1.u11 (s:L1):AV->L1:=L1.rec (motive:=λ_=>AV->L1) (λa0 a1 a2 a3 a4 a5 a6 a7 a8 a9 I9 _ a12 Jb Jc Jd v=>⟨a0,a1,a2,a3,a4,a5,a6,a7,a8,a9,I9,v,a12,Jb,Jc,Jd⟩) s
def L1.u12 (s:L1):AV->L1:=L1.rec (motive:=λ_=>AV->L1) (λa0 a1 a2 a3 a4 a5 a6 a7 a8 a9 I9 Ja _ Jb Jc Jd v=>⟨a0,a1,a2,a3,a4,a5,a6,a7,a8,a9,I9,Ja,v,Jb,Jc,Jd⟩) s
def L1.u13 (s:L1):AV->L1:=L1.rec (motive:=λ_=>AV->L1) (λa0 a1 a2 a3 a4 a5 a6 a7 a8 a9 I9 Ja a12 _ Jc Jd v=>⟨a0,a1,a2,a3,a4,a5,a6,a7,a8,a9,I9,Ja,a12,v,Jc,Jd⟩) s
def L1.u14 (s:L1):AV->L1:=L1.rec (motive:=λ_=>AV->L1) (λa0 a1 a2 a3 a4 a5 a6 a7 a8 a9 I9 Ja a12 Jb _ Jd v=>⟨a0,a1,a2,a3,a4,a5,a6,a7,a8,a9,I9,Ja,a12,Jb,v,Jd⟩) s
def L1.u15 (s:L1):AV->L1:=L1.rec (motive:=λ_=>AV->L1) (λa0 a1 a2 a3 a4 a5 a6 a7 a8 a9 I9 Ja a12 Jb Jc _ v=>⟨a0,a1,a2,a3,a4,a5,a6,a7,a8,a9,I9,Ja,a12,Jb,Jc,v⟩) s
def L1.Gu (d:On):L1->AV->L1:=On.rec (motive:=λ_=>L1->AV->L1) L1.u0 L1.u1 L1.u2 L1.u3 L1.u4 L1.u5 L1.u6 L1.u7 L1.u8 L1.u9 L1.u10 L1.u11 L1.u12 L1.u13 L1.u14 L1.u15 d
def L1.all (x:AV):L1:=⟨x,x,x,x,x,x,x,x,x,x,x,x,x,x,x,x⟩
theorem L1.G7 d e s v:L1.L4 d (L1.Gu e s v)=if d=e then v else L1.L4 d s:=by cases d<;>cases e<;>rfl
theorem L1.G6 d x:L1.L4 d (L1.all x)=x:=by cases d<;>rfl
structure L2 where
 (a0 a1 a2 a3 a4 a5 a6 a7 a8 a9 I9 Ja a12 Jb Jc Jd:L1)
def L2.L4 (d:On):L2->L1:=On.rec (motive:=λ_=>L2->L1) L2.a0 L2.a1 L2.a2 L2.a3 L2.a4 L2.a5 L2.a6 L2.a7 L2.a8 L2.a9 L2.I9 L2.Ja L2.a12 L2.Jb L2.Jc L2.Jd d
def L2.u0 (s:L2):L1->L2:=L2.rec (motive:=λ_=>L1->L2) (λ_ a1 a2 a3 a4 a5 a6 a7 a8 a9 I9 Ja a12 Jb Jc Jd v=>⟨v,a1,a2,a3,a4,a5,a6,a7,a8,a9,I9,Ja,a12,Jb,Jc,Jd⟩) s
def L2.u1 (s:L2):L1->L2:=L2.rec (motive:=λ_=>L1->L2) (λa0 _ a2 a3 a4 a5 a6 a7 a8 a9 I9 Ja a12 Jb Jc Jd v=>⟨a0,v,a2,a3,a4,a5,a6,a7,a8,a9,I9,Ja,a12,Jb,Jc,Jd⟩) s
def L2.u2 (s:L2):L1->L2:=L2.rec (motive:=λ_=>L1->L2) (λa0 a1 _ a3 a4 a5 a6 a7 a8 a9 I9 Ja a12 Jb Jc Jd v=>⟨a0,a1,v,a3,a4,a5,a6,a7,a8,a9,I9,Ja,a12,Jb,Jc,Jd⟩) s
def L2.u3 (s:L2):L1->L2:=L2.rec (motive:=λ_=>L1->L2) (λa0 a1 a2 _ a4 a5 a6 a7 a8 a9 I9 Ja a12 Jb Jc Jd v=>⟨a0,a1,a2,v,a4,a5,a6,a7,a8,a9,I9,Ja,a12,Jb,Jc,Jd⟩) s
def L2.u4 (s:L2):L1->L2:=L2.rec (motive:=λ_=>L1->L2) (λa0 a1 a2 a3 _ a5 a6 a7 a8 a9 I9 Ja a12 Jb Jc Jd v=>⟨a0,a1,a2,a3,v,a5,a6,a7,a8,a9,I9,Ja,a12,Jb,Jc,Jd⟩) s
def L2.u5 (s:L2):L1->L2:=L2.rec (motive:=λ_=>L1->L2) (λa0 a1 a2 a3 a4 _ a6 a7 a8 a9 I9 Ja a12 Jb Jc Jd v=>⟨a0,a1,a2,a3,a4,v,a6,a7,a8,a9,I9,Ja,a12,Jb,Jc,Jd⟩) s
def L2.u6 (s:L2):L1->L2:=L2.rec (motive:=λ_=>L1->L2) (λa0 a1 a2 a3 a4 a5 _ a7 a8 a9 I9 Ja a12 Jb Jc Jd v=>⟨a0,a1,a2,a3,a4,a5,v,a7,a8,a9,I9,Ja,a12,Jb,Jc,Jd⟩) s
def L2.u7 (s:L2):L1->L2:=L2.rec (motive:=λ_=>L1->L2) (λa0 a1 a2 a3 a4 a5 a6 _ a8 a9 I9 Ja a12 Jb Jc Jd v=>⟨a0,a1,a2,a3,a4,a5,a6,v,a8,a9,I9,Ja,a12,Jb,Jc,Jd⟩) s
def L2.u8 (s:L2):L1->L2:=L2.rec (motive:=λ_=>L1->L2) (λa0 a1 a2 a3 a4 a5 a6 a7 _ a9 I9 Ja a12 Jb Jc Jd v=>⟨a0,a1,a2,a3,a4,a5,a6,a7,v,a9,I9,Ja,a12,Jb,Jc,Jd⟩) s
def L2.u9 (s:L2):L1->L2:=L2.rec (motive:=λ_=>L1->L2) (λa0 a1 a2 a3 a4 a5 a6 a7 a8 _ I9 Ja a12 Jb Jc Jd v=>⟨a0,a1,a2,a3,a4,a5,a6,a7,a8,v,I9,Ja,a12,Jb,Jc,Jd⟩) s
def L2.u10 (s:L2):L1->L2:=L2.rec (motive:=λ_=>L1->L2) (λa0 a1 a2 a3 a4 a5 a6 a7 a8 a9 _ Ja a12 Jb Jc Jd v=>⟨a0,a1,a2,a3,a4,a5,a6,a7,a8,a9,v,Ja,a12,Jb,Jc,Jd⟩) s
def L2.u11 (s:L2):L1->L2:=L2.rec (motive:=λ_=>L1->L2) (λa0 a1 a2 a3 a4 a5 a6 a7 a8 a9 I9 _ a12 Jb Jc Jd v=>⟨a0,a1,a2,a3,a4,a5,a6,a7,a8,a9,I9,v,a12,Jb,Jc,Jd⟩) s
def L2.u12 (s:L2):L1->L2:=L2.rec (motive:=λ_=>L1->L2) (λa0 a1 a2 a3 a4 a5 a6 a7 a8 a9 I9 Ja _ Jb Jc Jd v=>⟨a0,a1,a2,a3,a4,a5,a6,a7,a8,a9,I9,Ja,v,Jb,Jc,Jd⟩) s
def L2.u13 (s:L2):L1->L2:=L2.rec (motive:=λ_=>L1->L2) (λa0 a1 a2 a3 a4 a5 a6 a7 a8 a9 I9 Ja a12 _ Jc Jd v=>⟨a0,a1,a2,a3,a4,a5,a6,a7,a8,a9,I9,Ja,a12,v,Jc,Jd⟩) s
def L2.u14 (s:L2):L1->L2:=L2.rec (motive:=λ_=>L1->L2) (λa0 a1 a2 a3 a4 a5 a6 a7 a8 a9 I9 Ja a12 Jb _ Jd v=>⟨a0,a1,a2,a3,a4,a5,a6,a7,a8,a9,I9,Ja,a12,Jb,v,Jd⟩) s
def L2.u15 (s:L2):L1->L2:=L2.rec (motive:=λ_=>L1->L2) (λa0 a1 a2 a3 a4 a5 a6 a7 a8 a9 I9 Ja a12 Jb Jc _ v=>⟨a0,a1,a2,a3,a4,a5,a6,a7,a8,a9,I9,Ja,a12,Jb,Jc,v⟩) s
def L2.Gu (d:On):L2->L1->L2:=On.rec (motive:=λ_=>L2->L1->L2) L2.u0 L2.u1 L2.u2 L2.u3 L2.u4 L2.u5 L2.u6 L2.u7 L2.u8 L2.u9 L2.u10 L2.u11 L2.u12 L2.u13 L2.u14 L2.u15 d
def L2.all (x:L1):L2:=⟨x,x,x,x,x,x,x,x,x,x,x,x,x,x,x,x⟩
theorem L2.G7 d e s v:L2.L4 d (L2.Gu e s v)=if d=e then v else L2.L4 d s:=by cases d<;>cases e<;>rfl
theorem L2.G6 d x:L2.L4 d (L2.all x)=x:=by cases d<;>rfl
inductive AO where
 |none
 |cells (c:List AV) (elem:TypeId) (k:CK)
 |map (es:List (AV × AV))
 |Fb (n:Nat)
 |loop (st:Nat) (Lw:Option Code) (fr:L2) (params:List Nat) (assign body:Code)
 |dfr (taken:Bool)
structure K1 where
 (a0 a1 a2 a3 a4 a5 a6 a7:AO)
def K1.L4 (d:D8):K1->AO:=D8.rec (motive:=λ_=>K1->AO) K1.a0 K1.a1 K1.a2 K1.a3 K1.a4 K1.a5 K1.a6 K1.a7 d
def K1.u0 (s:K1):AO->K1:=K1.rec (motive:=λ_=>AO->K1) (λ_ a1 a2 a3 a4 a5 a6 a7 v=>⟨v,a1,a2,a3,a4,a5,a6,a7⟩) s
def K1.u1 (s:K1):AO->K1:=K1.rec (motive:=λ_=>AO->K1) (λa0 _ a2 a3 a4 a5 a6 a7 v=>⟨a0,v,a2,a3,a4,a5,a6,a7⟩) s
def K1.u2 (s:K1):AO->K1:=K1.rec (motive:=λ_=>AO->K1) (λa0 a1 _ a3 a4 a5 a6 a7 v=>⟨a0,a1,v,a3,a4,a5,a6,a7⟩) s
def K1.u3 (s:K1):AO->K1:=K1.rec (motive:=λ_=>AO->K1) (λa0 a1 a2 _ a4 a5 a6 a7 v=>⟨a0,a1,a2,v,a4,a5,a6,a7⟩) s
def K1.u4 (s:K1):AO->K1:=K1.rec (motive:=λ_=>AO->K1) (λa0 a1 a2 a3 _ a5 a6 a7 v=>⟨a0,a1,a2,a3,v,a5,a6,a7⟩) s
def K1.u5 (s:K1):AO->K1:=K1.rec (motive:=λ_=>AO->K1) (λa0 a1 a2 a3 a4 _ a6 a7 v=>⟨a0,a1,a2,a3,a4,v,a6,a7⟩) s
def K1.u6 (s:K1):AO->K1:=K1.rec (motive:=λ_=>AO->K1) (λa0 a1 a2 a3 a4 a5 _ a7 v=>⟨a0,a1,a2,a3,a4,a5,v,a7⟩) s
def K1.u7 (s:K1):AO->K1:=K1.rec (motive:=λ_=>AO->K1) (λa0 a1 a2 a3 a4 a5 a6 _ v=>⟨a0,a1,a2,a3,a4,a5,a6,v⟩) s
def K1.Gu (d:D8):K1->AO->K1:=D8.rec (motive:=λ_=>K1->AO->K1) K1.u0 K1.u1 K1.u2 K1.u3 K1.u4 K1.u5 K1.u6 K1.u7 d
def K1.all (x:AO):K1:=⟨x,x,x,x,x,x,x,x⟩
theorem K1.G7 d e s v:K1.L4 d (K1.Gu e s v)=if d=e then v else K1.L4 d s:=by cases d<;>cases e<;>rfl
theorem K1.G6 d x:K1.L4 d (K1.all x)=x:=by cases d<;>rfl
structure K2 where
 (a0 a1 a2 a3 a4 a5 a6 a7:K1)
def K2.L4 (d:D8):K2->K1:=D8.rec (motive:=λ_=>K2->K1) K2.a0 K2.a1 K2.a2 K2.a3 K2.a4 K2.a5 K2.a6 K2.a7 d
def K2.u0 (s:K2):K1->K2:=K2.rec (motive:=λ_=>K1->K2) (λ_ a1 a2 a3 a4 a5 a6 a7 v=>⟨v,a1,a2,a3,a4,a5,a6,a7⟩) s
def K2.u1 (s:K2):K1->K2:=K2.rec (motive:=λ_=>K1->K2) (λa0 _ a2 a3 a4 a5 a6 a7 v=>⟨a0,v,a2,a3,a4,a5,a6,a7⟩) s
def K2.u2 (s:K2):K1->K2:=K2.rec (motive:=λ_=>K1->K2) (λa0 a1 _ a3 a4 a5 a6 a7 v=>⟨a0,a1,v,a3,a4,a5,a6,a7⟩) s
def K2.u3 (s:K2):K1->K2:=K2.rec (motive:=λ_=>K1->K2) (λa0 a1 a2 _ a4 a5 a6 a7 v=>⟨a0,a1,a2,v,a4,a5,a6,a7⟩) s
def K2.u4 (s:K2):K1->K2:=K2.rec (motive:=λ_=>K1->K2) (λa0 a1 a2 a3 _ a5 a6 a7 v=>⟨a0,a1,a2,a3,v,a5,a6,a7⟩) s
def K2.u5 (s:K2):K1->K2:=K2.rec (motive:=λ_=>K1->K2) (λa0 a1 a2 a3 a4 _ a6 a7 v=>⟨a0,a1,a2,a3,a4,v,a6,a7⟩) s
def K2.u6 (s:K2):K1->K2:=K2.rec (motive:=λ_=>K1->K2) (λa0 a1 a2 a3 a4 a5 _ a7 v=>⟨a0,a1,a2,a3,a4,a5,v,a7⟩) s
def K2.u7 (s:K2):K1->K2:=K2.rec (motive:=λ_=>K1->K2) (λa0 a1 a2 a3 a4 a5 a6 _ v=>⟨a0,a1,a2,a3,a4,a5,a6,v⟩) s
def K2.Gu (d:D8):K2->K1->K2:=D8.rec (motive:=λ_=>K2->K1->K2) K2.u0 K2.u1 K2.u2 K2.u3 K2.u4 K2.u5 K2.u6 K2.u7 d
def K2.all (x:K1):K2:=⟨x,x,x,x,x,x,x,x⟩
theorem K2.G7 d e s v:K2.L4 d (K2.Gu e s v)=if d=e then v else K2.L4 d s:=by cases d<;>cases e<;>rfl
theorem K2.G6 d x:K2.L4 d (K2.all x)=x:=by cases d<;>rfl
structure K3 where
 (a0 a1 a2 a3 a4 a5 a6 a7:K2)
def K3.L4 (d:D8):K3->K2:=D8.rec (motive:=λ_=>K3->K2) K3.a0 K3.a1 K3.a2 K3.a3 K3.a4 K3.a5 K3.a6 K3.a7 d
def K3.u0 (s:K3):K2->K3:=K3.rec (motive:=λ_=>K2->K3) (λ_ a1 a2 a3 a4 a5 a6 a7 v=>⟨v,a1,a2,a3,a4,a5,a6,a7⟩) s
def K3.u1 (s:K3):K2->K3:=K3.rec (motive:=λ_=>K2->K3) (λa0 _ a2 a3 a4 a5 a6 a7 v=>⟨a0,v,a2,a3,a4,a5,a6,a7⟩) s
def K3.u2 (s:K3):K2->K3:=K3.rec (motive:=λ_=>K2->K3) (λa0 a1 _ a3 a4 a5 a6 a7 v=>⟨a0,a1,v,a3,a4,a5,a6,a7⟩) s
def K3.u3 (s:K3):K2->K3:=K3.rec (motive:=λ_=>K2->K3) (λa0 a1 a2 _ a4 a5 a6 a7 v=>⟨a0,a1,a2,v,a4,a5,a6,a7⟩) s
def K3.u4 (s:K3):K2->K3:=K3.rec (motive:=λ_=>K2->K3) (λa0 a1 a2 a3 _ a5 a6 a7 v=>⟨a0,a1,a2,a3,v,a5,a6,a7⟩) s
def K3.u5 (s:K3):K2->K3:=K3.rec (motive:=λ_=>K2->K3) (λa0 a1 a2 a3 a4 _ a6 a7 v=>⟨a0,a1,a2,a3,a4,v,a6,a7⟩) s
def K3.u6 (s:K3):K2->K3:=K3.rec (motive:=λ_=>K2->K3) (λa0 a1 a2 a3 a4 a5 _ a7 v=>⟨a0,a1,a2,a3,a4,a5,v,a7⟩) s
def K3.u7 (s:K3):K2->K3:=K3.rec (motive:=λ_=>K2->K3) (λa0 a1 a2 a3 a4 a5 a6 _ v=>⟨a0,a1,a2,a3,a4,a5,a6,v⟩) s
def K3.Gu (d:D8):K3->K2->K3:=D8.rec (motive:=λ_=>K3->K2->K3) K3.u0 K3.u1 K3.u2 K3.u3 K3.u4 K3.u5 K3.u6 K3.u7 d
def K3.all (x:K2):K3:=⟨x,x,x,x,x,x,x,x⟩
theorem K3.G7 d e s v:K3.L4 d (K3.Gu e s v)=if d=e then v else K3.L4 d s:=by cases d<;>cases e<;>rfl
theorem K3.G6 d x:K3.L4 d (K3.all x)=x:=by cases d<;>rfl
structure K4 where
 (a0 a1 a2 a3 a4 a5 a6 a7:K3)
def K4.L4 (d:D8):K4->K3:=D8.rec (motive:=λ_=>K4->K3) K4.a0 K4.a1 K4.a2 K4.a3 K4.a4 K4.a5 K4.a6 K4.a7 d
def K4.u0 (s:K4):K3->K4:=K4.rec (motive:=λ_=>K3->K4) (λ_ a1 a2 a3 a4 a5 a6 a7 v=>⟨v,a1,a2,a3,a4,a5,a6,a7⟩) s
def K4.u1 (s:K4):K3->K4:=K4.rec (motive:=λ_=>K3->K4) (λa0 _ a2 a3 a4 a5 a6 a7 v=>⟨a0,v,a2,a3,a4,a5,a6,a7⟩) s
def K4.u2 (s:K4):K3->K4:=K4.rec (motive:=λ_=>K3->K4) (λa0 a1 _ a3 a4 a5 a6 a7 v=>⟨a0,a1,v,a3,a4,a5,a6,a7⟩) s
def K4.u3 (s:K4):K3->K4:=K4.rec (motive:=λ_=>K3->K4) (λa0 a1 a2 _ a4 a5 a6 a7 v=>⟨a0,a1,a2,v,a4,a5,a6,a7⟩) s
def K4.u4 (s:K4):K3->K4:=K4.rec (motive:=λ_=>K3->K4) (λa0 a1 a2 a3 _ a5 a6 a7 v=>⟨a0,a1,a2,a3,v,a5,a6,a7⟩) s
def K4.u5 (s:K4):K3->K4:=K4.rec (motive:=λ_=>K3->K4) (λa0 a1 a2 a3 a4 _ a6 a7 v=>⟨a0,a1,a2,a3,a4,v,a6,a7⟩) s
def K4.u6 (s:K4):K3->K4:=K4.rec (motive:=λ_=>K3->K4) (λa0 a1 a2 a3 a4 a5 _ a7 v=>⟨a0,a1,a2,a3,a4,a5,v,a7⟩) s
def K4.u7 (s:K4):K3->K4:=K4.rec (motive:=λ_=>K3->K4) (λa0 a1 a2 a3 a4 a5 a6 _ v=>⟨a0,a1,a2,a3,a4,a5,a6,v⟩) s
def K4.Gu (d:D8):K4->K3->K4:=D8.rec (motive:=λ_=>K4->K3->K4) K4.u0 K4.u1 K4.u2 K4.u3 K4.u4 K4.u5 K4.u6 K4.u7 d
def K4.all (x:K3):K4:=⟨x,x,x,x,x,x,x,x⟩
theorem K4.G7 d e s v:K4.L4 d (K4.Gu e s v)=if d=e then v else K4.L4 d s:=by cases d<;>cases e<;>rfl
theorem K4.G6 d x:K4.L4 d (K4.all x)=x:=by cases d<;>rfl
structure K5 where
 (a0 a1 a2 a3 a4 a5 a6 a7:K4)
def K5.L4 (d:D8):K5->K4:=D8.rec (motive:=λ_=>K5->K4) K5.a0 K5.a1 K5.a2 K5.a3 K5.a4 K5.a5 K5.a6 K5.a7 d
def K5.u0 (s:K5):K4->K5:=K5.rec (motive:=λ_=>K4->K5) (λ_ a1 a2 a3 a4 a5 a6 a7 v=>⟨v,a1,a2,a3,a4,a5,a6,a7⟩) s
def K5.u1 (s:K5):K4->K5:=K5.rec (motive:=λ_=>K4->K5) (λa0 _ a2 a3 a4 a5 a6 a7 v=>⟨a0,v,a2,a3,a4,a5,a6,a7⟩) s
def K5.u2 (s:K5):K4->K5:=K5.rec (motive:=λ_=>K4->K5) (λa0 a1 _ a3 a4 a5 a6 a7 v=>⟨a0,a1,v,a3,a4,a5,a6,a7⟩) s
def K5.u3 (s:K5):K4->K5:=K5.rec (motive:=λ_=>K4->K5) (λa0 a1 a2 _ a4 a5 a6 a7 v=>⟨a0,a1,a2,v,a4,a5,a6,a7⟩) s
def K5.u4 (s:K5):K4->K5:=K5.rec (motive:=λ_=>K4->K5) (λa0 a1 a2 a3 _ a5 a6 a7 v=>⟨a0,a1,a2,a3,v,a5,a6,a7⟩) s
def K5.u5 (s:K5):K4->K5:=K5.rec (motive:=λ_=>K4->K5) (λa0 a1 a2 a3 a4 _ a6 a7 v=>⟨a0,a1,a2,a3,a4,v,a6,a7⟩) s
def K5.u6 (s:K5):K4->K5:=K5.rec (motive:=λ_=>K4->K5) (λa0 a1 a2 a3 a4 a5 _ a7 v=>⟨a0,a1,a2,a3,a4,a5,v,a7⟩) s
def K5.u7 (s:K5):K4->K5:=K5.rec (motive:=λ_=>K4->K5) (λa0 a1 a2 a3 a4 a5 a6 _ v=>⟨a0,a1,a2,a3,a4,a5,a6,v⟩) s
def K5.Gu (d:D8):K5->K4->K5:=D8.rec (motive:=λ_=>K5->K4->K5) K5.u0 K5.u1 K5.u2 K5.u3 K5.u4 K5.u5 K5.u6 K5.u7 d
def K5.all (x:K4):K5:=⟨x,x,x,x,x,x,x,x⟩
theorem K5.G7 d e s v:K5.L4 d (K5.Gu e s v)=if d=e then v else K5.L4 d s:=by cases d<;>cases e<;>rfl
theorem K5.G6 d x:K5.L4 d (K5.all x)=x:=by cases d<;>rfl
structure K6 where
 (a0 a1 a2 a3 a4 a5 a6 a7:K5)
def K6.L4 (d:D8):K6->K5:=D8.rec (motive:=λ_=>K6->K5) K6.a0 K6.a1 K6.a2 K6.a3 K6.a4 K6.a5 K6.a6 K6.a7 d
def K6.u0 (s:K6):K5->K6:=K6.rec (motive:=λ_=>K5->K6) (λ_ a1 a2 a3 a4 a5 a6 a7 v=>⟨v,a1,a2,a3,a4,a5,a6,a7⟩) s
def K6.u1 (s:K6):K5->K6:=K6.rec (motive:=λ_=>K5->K6) (λa0 _ a2 a3 a4 a5 a6 a7 v=>⟨a0,v,a2,a3,a4,a5,a6,a7⟩) s
def K6.u2 (s:K6):K5->K6:=K6.rec (motive:=λ_=>K5->K6) (λa0 a1 _ a3 a4 a5 a6 a7 v=>⟨a0,a1,v,a3,a4,a5,a6,a7⟩) s
def K6.u3 (s:K6):K5->K6:=K6.rec (motive:=λ_=>K5->K6) (λa0 a1 a2 _ a4 a5 a6 a7 v=>⟨a0,a1,a2,v,a4,a5,a6,a7⟩) s
def K6.u4 (s:K6):K5->K6:=K6.rec (motive:=λ_=>K5->K6) (λa0 a1 a2 a3 _ a5 a6 a7 v=>⟨a0,a1,a2,a3,v,a5,a6,a7⟩) s
def K6.u5 (s:K6):K5->K6:=K6.rec (motive:=λ_=>K5->K6) (λa0 a1 a2 a3 a4 _ a6 a7 v=>⟨a0,a1,a2,a3,a4,v,a6,a7⟩) s
def K6.u6 (s:K6):K5->K6:=K6.rec (motive:=λ_=>K5->K6) (λa0 a1 a2 a3 a4 a5 _ a7 v=>⟨a0,a1,a2,a3,a4,a5,v,a7⟩) s
def K6.u7 (s:K6):K5->K6:=K6.rec (motive:=λ_=>K5->K6) (λa0 a1 a2 a3 a4 a5 a6 _ v=>⟨a0,a1,a2,a3,a4,a5,a6,v⟩) s
def K6.Gu (d:D8):K6->K5->K6:=D8.rec (motive:=λ_=>K6->K5->K6) K6.u0 K6.u1 K6.u2 K6.u3 K6.u4 K6.u5 K6.u6 K6.u7 d
def K6.all (x:K5):K6:=⟨x,x,x,x,x,x,x,x⟩
theorem K6.G7 d e s v:K6.L4 d (K6.Gu e s v)=if d=e then v else K6.L4 d s:=by cases d<;>cases e<;>rfl
theorem K6.G6 d x:K6.L4 d (K6.all x)=x:=by cases d<;>rfl
def L2.get (t:Nat) (f:L2):AV:=L1.L4 (Xl (Nat.mod t 16)) (L2.L4 (Xl (Nat.div t 16)) f)
def L2.set (t:Nat) (v:AV) (f:L2):L2:=L2.Gu (Xl (Nat.div t 16)) f (L1.Gu (Xl (Nat.mod t 16)) (L2.L4 (Xl (Nat.div t 16)) f) v)
def L2.new:L2:=L2.all (L1.all (.Bj []))
def K6.get (m:K6) (i:Nat):AO:=K1.L4 (V8 (Nat.mod i 8)) (K2.L4 (V8 (Nat.mod (Nat.div i 8) 8)) (K3.L4 (V8 (Nat.mod (Nat.div i 64) 8)) (K4.L4 (V8 (Nat.mod (Nat.div i 512) 8)) (K5.L4 (V8 (Nat.mod (Nat.div i 4096) 8)) (K6.L4 (V8 (Nat.div i 32768)) (m))))))
def K6.set (m:K6) (i:Nat) (v:AO):K6:=K6.Gu (V8 (Nat.div i 32768)) (m) (K5.Gu (V8 (Nat.mod (Nat.div i 4096) 8)) (K6.L4 (V8 (Nat.div i 32768)) (m)) (K4.Gu (V8 (Nat.mod (Nat.div i 512) 8)) (K5.L4 (V8 (Nat.mod (Nat.div i 4096) 8)) (K6.L4 (V8 (Nat.div i 32768)) (m))) (K3.Gu (V8 (Nat.mod (Nat.div i 64) 8)) (K4.L4 (V8 (Nat.mod (Nat.div i 512) 8)) (K5.L4 (V8 (Nat.mod (Nat.div i 4096) 8)) (K6.L4 (V8 (Nat.div i 32768)) (m)))) (K2.Gu (V8 (Nat.mod (Nat.div i 8) 8)) (K3.L4 (V8 (Nat.mod (Nat.div i 64) 8)) (K4.L4 (V8 (Nat.mod (Nat.div i 512) 8)) (K5.L4 (V8 (Nat.mod (Nat.div i 4096) 8)) (K6.L4 (V8 (Nat.div i 32768)) (m))))) (K1.Gu (V8 (Nat.mod i 8)) (K2.L4 (V8 (Nat.mod (Nat.div i 8) 8)) (K3.L4 (V8 (Nat.mod (Nat.div i 64) 8)) (K4.L4 (V8 (Nat.mod (Nat.div i 512) 8)) (K5.L4 (V8 (Nat.mod (Nat.div i 4096) 8)) (K6.L4 (V8 (Nat.div i 32768)) (m)))))) (v))))))
def K6.new:K6:=K6.all (K5.all (K4.all (K3.all (K2.all (K1.all .none)))))
structure KM where
 lo:K6
 hi:Nat->AO
def KM.get (m:KM) (i:Nat):AO:=Bool.rec (motive:=λ_=>AO) (m.hi i) (m.lo.get i) (Nat.blt i 262144)
def KM.set (m:KM) (i:Nat) (v:AO):KM:=Bool.rec (motive:=λ_=>KM) ⟨m.lo,λj=>Bool.rec (motive:=λ_=>AO) (m.hi j) v (Nat.beq j i)⟩ ⟨m.lo.set i v,m.hi⟩ (Nat.blt i 262144)
def KM.new:KM:=⟨K6.new,λ_=>.none⟩
end Go.Ev
namespace Go.Ev
noncomputable section
inductive VB where|no|yes (b:Bool)
inductive VI where|no|yes (k:IntKind) (n:Int)
inductive VS where|no|yes (s:List Nat)
inductive VP where|no|nil|yes (b off:Nat)
inductive VL where|no|nil|yes (b off len cap sz:Nat) (ex:Bool)
inductive VA where|no|yes (cs:List AV)
inductive VM where|no|nil|yes (r:Nat)
inductive VF where|no|nil|yes (f:Fn) (first cap:List AV)
inductive VIf where|no|nil|yes (t:TypeId) (v:AV)
def vB (x:AV):VB:=AV.rec (motive_1:=λ_=>VB) (motive_2:=λ_=>PUnit) (VB.no) (λb=>VB.yes b) (λ_ _=>VB.no) (λ_=>VB.no) (VB.no) (λ_ _=>VB.no) (VB.no) (λ_ _ _ _ _ _=>VB.no) (VB.no) (λ_=>VB.no) (λ_ _ _ _ _=>VB.no) (VB.no) (λ_ _ _=>VB.no) (VB.no) (λ_ _=>VB.no) (λ_ _=>VB.no) PUnit.unit (λ_ _ _ _=>PUnit.unit) x
def vI (x:AV):VI:=AV.rec (motive_1:=λ_=>VI) (motive_2:=λ_=>PUnit) (VI.no) (λ_=>VI.no) (λk n=>VI.yes k n) (λ_=>VI.no) (VI.no) (λ_ _=>VI.no) (VI.no) (λ_ _ _ _ _ _=>VI.no) (VI.no) (λ_=>VI.no) (λ_ _ _ _ _=>VI.no) (VI.no) (λ_ _ _=>VI.no) (VI.no) (λ_ _=>VI.no) (λ_ _=>VI.no) PUnit.unit (λ_ _ _ _=>PUnit.unit) x
def vS (x:AV):VS:=AV.rec (motive_1:=λ_=>VS) (motive_2:=λ_=>PUnit) (VS.no) (λ_=>VS.no) (λ_ _=>VS.no) (λs=>VS.yes s) (VS.no) (λ_ _=>VS.no) (VS.no) (λ_ _ _ _ _ _=>VS.no) (VS.no) (λ_=>VS.no) (λ_ _ _ _ _=>VS.no) (VS.no) (λ_ _ _=>VS.no) (VS.no) (λ_ _=>VS.no) (λ_ _=>VS.no) PUnit.unit (λ_ _ _ _=>PUnit.unit) x
def vP (x:AV):VP:=AV.rec (motive_1:=λ_=>VP) (motive_2:=λ_=>PUnit) (VP.no) (λ_=>VP.no) (λ_ _=>VP.no) (λ_=>VP.no) (VP.nil) (λb o=>VP.yes b o) (VP.no) (λ_ _ _ _ _ _=>VP.no) (VP.no) (λ_=>VP.no) (λ_ _ _ _ _=>VP.no) (VP.no) (λ_ _ _=>VP.no) (VP.no) (λ_ _=>VP.no) (λ_ _=>VP.no) PUnit.unit (λ_ _ _ _=>PUnit.unit) x
def vL (x:AV):VL:=AV.rec (motive_1:=λ_=>VL) (motive_2:=λ_=>PUnit) (VL.no) (λ_=>VL.no) (λ_ _=>VL.no) (λ_=>VL.no) (VL.no) (λ_ _=>VL.no) (VL.nil) (λb o l c z e=>VL.yes b o l c z e) (VL.no) (λ_=>VL.no) (λ_ _ _ _ _=>VL.no) (VL.no) (λ_ _ _=>VL.no) (VL.no) (λ_ _=>VL.no) (λ_ _=>VL.no) PUnit.unit (λ_ _ _ _=>PUnit.unit) x
def vA (x:AV):VA:=AV.rec (motive_1:=λ_=>VA) (motive_2:=λ_=>PUnit) (VA.no) (λ_=>VA.no) (λ_ _=>VA.no) (λ_=>VA.no) (VA.no) (λ_ _=>VA.no) (VA.no) (λ_ _ _ _ _ _=>VA.no) (VA.no) (λ_=>VA.no) (λ_ _ _ _ _=>VA.no) (VA.no) (λ_ _ _=>VA.no) (VA.no) (λcs _=>VA.yes cs) (λ_ _=>VA.no) PUnit.unit (λ_ _ _ _=>PUnit.unit) x
def vT (x:AV):VA:=AV.rec (motive_1:=λ_=>VA) (motive_2:=λ_=>PUnit) (VA.no) (λ_=>VA.no) (λ_ _=>VA.no) (λ_=>VA.no) (VA.no) (λ_ _=>VA.no) (VA.no) (λ_ _ _ _ _ _=>VA.no) (VA.no) (λ_=>VA.no) (λ_ _ _ _ _=>VA.no) (VA.no) (λ_ _ _=>VA.no) (VA.no) (λ_ _=>VA.no) (λvs _=>VA.yes vs) PUnit.unit (λ_ _ _ _=>PUnit.unit) x
def vM (x:AV):VM:=AV.rec (motive_1:=λ_=>VM) (motive_2:=λ_=>PUnit) (VM.no) (λ_=>VM.no) (λ_ _=>VM.no) (λ_=>VM.no) (VM.no) (λ_ _=>VM.no) (VM.no) (λ_ _ _ _ _ _=>VM.no) (VM.nil) (λr=>VM.yes r) (λ_ _ _ _ _=>VM.no) (VM.no) (λ_ _ _=>VM.no) (VM.no) (λ_ _=>VM.no) (λ_ _=>VM.no) PUnit.unit (λ_ _ _ _=>PUnit.unit) x
def vF (x:AV):VF:=AV.rec (motive_1:=λ_=>VF) (motive_2:=λ_=>PUnit) (VF.no) (λ_=>VF.no) (λ_ _=>VF.no) (λ_=>VF.no) (VF.no) (λ_ _=>VF.no) (VF.no) (λ_ _ _ _ _ _=>VF.no) (VF.no) (λ_=>VF.no) (λf a c _ _=>VF.yes f a c) (VF.nil) (λ_ _ _=>VF.no) (VF.no) (λ_ _=>VF.no) (λ_ _=>VF.no) PUnit.unit (λ_ _ _ _=>PUnit.unit) x
def vIf (x:AV):VIf:=AV.rec (motive_1:=λ_=>VIf) (motive_2:=λ_=>PUnit) (VIf.no) (λ_=>VIf.no) (λ_ _=>VIf.no) (λ_=>VIf.no) (VIf.no) (λ_ _=>VIf.no) (VIf.no) (λ_ _ _ _ _ _=>VIf.no) (VIf.no) (λ_=>VIf.no) (λ_ _ _ _ _=>VIf.no) (VIf.no) (λt v _=>VIf.yes t v) (VIf.nil) (λ_ _=>VIf.no) (λ_ _=>VIf.no) PUnit.unit (λ_ _ _ _=>PUnit.unit) x
def Ge (x:AV):Bool:=AV.rec (motive_1:=λ_=>Bool) (motive_2:=λ_=>PUnit) (false) (λ_=>true) (λ_ _=>true) (λ_=>true) (true) (λ_ _=>true) (true) (λ_ _ _ _ _ _=>true) (true) (λ_=>true) (λ_ _ _ _ _=>true) (true) (λ_ _ _=>true) (true) (λ_ _=>false) (λ_ _=>false) PUnit.unit (λ_ _ _ _=>PUnit.unit) x
inductive CL where|no|one|many (cs:List AV)
def vC (x:AV):CL:=AV.rec (motive_1:=λ_=>CL) (motive_2:=λ_=>PUnit) (CL.no) (λ_=>CL.one) (λ_ _=>CL.one) (λ_=>CL.one) (CL.one) (λ_ _=>CL.one) (CL.one) (λ_ _ _ _ _ _=>CL.one) (CL.one) (λ_=>CL.one) (λ_ _ _ _ _=>CL.one) (CL.one) (λ_ _ _=>CL.one) (CL.one) (λcs _=>CL.many cs) (λ_ _=>CL.no) PUnit.unit (λ_ _ _ _=>PUnit.unit) x
def cellsOf (x:AV):Option (List AV):=CL.rec (motive:=λ_=>AV->Option (List AV)) (λ_=>none) (λx=>some [x]) (λcs _=>some cs) (vC x) x
def ltl (x:Option (List AV)):Option (List AV):=Option.rec (motive:=λ_=>Option (List AV)) none (λl=>List.rec (motive:=λ_=>Option (List AV)) none (λ_ t _=>some t) l) x
def lhd (x:Option (List AV)):Option AV:=Option.rec (motive:=λ_=>Option AV) none (λl=>List.rec (motive:=λ_=>Option AV) none (λa _ _=>some a) l) x
def AcD (l:List AV) (n:Nat):Option (List AV):=Nat.rec (motive:=λ_=>Option (List AV)) (some l) (λ_ ih=>ltl ih) n
def AcE (l:List AV) (n:Nat):Option AV:=lhd (AcD l n)
def AeG (n:Nat):List AV->Option (List AV):=
 Nat.rec (motive:=λ_=>List AV->Option (List AV)) (λ_=>some [])
  (λ_ ih l=>List.rec (motive:=λ_=>Option (List AV)) none (λa l _=>Option.rec (motive:=λ_=>Option (List AV)) none (λr=>some (a::r)) (ih l)) l) n
def Nf (l:List AV) (off n:Nat):Option (List AV):=Option.rec (motive:=λ_=>Option (List AV)) none (AeG n) (AcD l off)
def AcF (vs:List AV):List AV->Option (List AV):=
 List.rec (motive:=λ_=>List AV->Option (List AV)) some
  (λv _ ih l=>List.rec (motive:=λ_=>Option (List AV)) none (λ_ l _=>Option.rec (motive:=λ_=>Option (List AV)) none (λr=>some (v::r)) (ih l)) l) vs
def Ng (l:List AV) (vs:List AV):Nat->Option (List AV):=
 List.rec (motive:=λ_=>Nat->Option (List AV)) (λn=>Nat.rec (motive:=λ_=>Option (List AV)) (AcF vs []) (λ_ _=>none) n)
  (λa l ih n=>Nat.rec (motive:=λ_=>Option (List AV)) (AcF vs (a::l)) (λm _=>Option.rec (motive:=λ_=>Option (List AV)) none (λr=>some (a::r)) (ih m)) n) l
def J0 (x y:List AV):List AV:=List.rec (motive:=λ_=>List AV) y (λa _ ih=>a::ih) x
def Q4 (x:List AV):Nat:=List.rec (motive:=λ_=>Nat) 0 (λ_ _ ih=>Nat.succ ih) x
def Bm (x:List AV):Bool:=List.rec (motive:=λ_=>Bool) true (λa _ ih=>Bool.rec (motive:=λ_=>Bool) false ih (Ge a)) x
structure H where
 m:KM
 nx:Nat
 lg:List Nat
inductive OR where
 |bad (why:Nat)
 |ok (v:AV) (h:H)
 |Hb (v:AV) (h:H)
inductive RH where
 |bad (why:Nat)
 |ok (h:H)
def H.new (h:H) (o:AO):H:=⟨h.m.set h.nx o,Nat.succ h.nx,h.lg⟩
def H.put (h:H) (b:Nat) (o:AO):H:=⟨h.m.set b o,h.nx,b::h.lg⟩
def AlH (n:Nat) (o:AO):Bool:=AO.rec (motive:=λ_=>Bool) false (λ_ _ _=>false) (λ_=>false) (λm=>Nat.beq m n) (λ_ _ _ _ _ _=>false) (λ_=>false) o
def ArJ (N3 st:Nat) (c:List AV) (h:H):Option (List AV):=(Bool.rec (motive:=λ_=>Option (List AV)) (none) (some c) (AlH st (h.m.get N3)))
def rdK (k:CK):List AV->H->Option (List AV):=CK.rec (motive:=λ_=>List AV->H->Option (List AV)) (λc _=>some c) (λ_ c _=>some c) (λ_ c _=>some c) ArJ k
def rdO (o:AO):H->Option (List AV):=AO.rec (motive:=λ_=>H->Option (List AV)) (λ_=>none) (λc _ k=>rdK k c) (λ_ _=>none) (λ_ _=>none) (λ_ _ _ _ _ _ _=>none) (λ_ _=>none) o
def H.rd (h:H) (b:Nat):Option (List AV):=rdO (h.m.get b) h
def wrL (c:Option (List AV)):Nat->TypeId->H->RH:=Option.rec (motive:=λ_=>Nat->TypeId->H->RH) (λ_ _ _=>.bad 1) (λc b e h=>.ok (h.put b (.cells c e .exact))) c
def Aj3 (o:AO):Option Nat:=AO.rec (motive:=λ_=>Option Nat) none (λ_ _ _=>none) (λ_=>none) some (λ_ _ _ _ _ _=>none) (λ_=>none) o
def wrT (c:Option (List AV)) (n:Option Nat) (N3 b:Nat) (e:TypeId) (h:H):RH:=
 match c,n with
 |some c,some n=>.ok ((h.put b (.cells c e (.Gt N3))).put N3 (.Fb (Nat.succ n)))
 |_,_=>.bad 2
def wrK (k:CK):List AV->TypeId->Nat->Nat->List AV->H->RH:=CK.rec (motive:=λ_=>List AV->TypeId->Nat->Nat->List AV->H->RH)
 (λc e b off vs h=>wrL (Ng c vs off) b e h) (λ_ _ _ _ _ _ _=>.bad 3) (λN3 c e b off vs h=>wrT (Ng c vs off) (Aj3 (h.m.get N3)) N3 b e h) (λ_ _ _ _ _ _ _ _=>.bad 3) k
def wrO (o:AO):Nat->Nat->List AV->H->RH:=AO.rec (motive:=λ_=>Nat->Nat->List AV->H->RH) (λ_ _ _ _=>.bad 4) (λc e k=>wrK k c e) (λ_ _ _ _ _=>.bad 4) (λ_ _ _ _ _=>.bad 4) (λ_ _ _ _ _ _ _ _ _ _=>.bad 4) (λ_ _ _ _ _=>.bad 4) o
def H.wr (h:H) (b off:Nat) (vs:List AV):RH:=wrO (h.m.get b) b off vs h
def Ft (P:Program) (t:TypeId):Option (Option Nat):=
 match P.underlying t,P.info? t with
 |some (.struct _),some i|some (.array _ _),some i=>some (some i.size)
 |some _,some _=>some none
 |_,_=>none
def F7 (P:Program) (t:TypeId):Option Nat:=(P.info? t).map (·.size)
structure SI where
 e:TypeId
 s:Nat
 bytes:Nat
inductive XI where|bad|str|sl (s:SI)|arr (n:Nat) (s:SI)
def Hp (P:Program) (t:TypeId):XI:=
 match P.underlying t with
 |some .string=>.str
 |some (.slice e)=>match P.info? e with|some i=>Bool.rec (motive:=λ_=>XI) .bad (.sl ⟨e,i.size,i.bytes⟩) (Nat.blt 0 i.size)|none=>.bad
 |some (.array n e)=>match P.info? e with|some i=>.arr n ⟨e,i.size,i.bytes⟩|none=>.bad
 |_=>.bad
def bytesOf (s:ByteArray):List Nat:=s.data.toList.map UInt8.toNat
def App:Nat->Value->AV
 |0,_=>.top
 |d+1,v=>
  match v with
  |.bool b=>.bool b
  |.int k n=>.int k n
  |.string s=>.str (bytesOf s)
  |.pointer none=>.Ob
  |.slice none 0 0=>.Bv
  |.map none=>.Td
  |.nilFunc=>.Iy
  |.nilIface=>.B3
  |.iface t v=>.I6 t (App d v)
  |.agg cs=>.agg (cs.toList.map (App d))
  |_=>.top
abbrev A1B:Value->AV:=App 5
def Ps (P:Program) (t:TypeId):Option AV:=((P.info? t).bind (·.zero)).map A1B
def I1 (P:Program) (t:TypeId):Option (List AV):=(Ps P t).bind cellsOf
def Tw (P:Program) (t:TypeId):Option SI:=
 match P.underlying t with
 |some (.slice e)=>match P.info? e,I1 P e with|some i,some z=>(Bool.rec (motive:=λ_=>Option SI) (none) (Bool.rec (motive:=λ_=>Option SI) none (some ⟨e,i.size,i.bytes⟩) (Nat.blt 0 i.size)) (Nat.beq (Q4 z) i.size))|_,_=>none
 |_=>none
structure Ac where
 call:FuncId->List AV->H->OR
 round:Nat->List AV->H->OR
abbrev V2:=TypeId->Program->Ac->L2->H->OR
def BaD (t:Nat) (f:L2):AV:=f.get t
def AzU (v:Value) (_:L2):AV:=A1B v
def AuY (g:Nat) (_:L2):AV:=.ptr g 0
def A52 (f:Nat) (_:L2):AV:=.fn (.func f) [] []
def ev (x:Operand):L2->AV:=Operand.rec (motive:=λ_=>L2->AV) BaD AzU AuY A52 x
def W1 (l:List Operand) (f:L2):List AV:=List.rec (motive:=λ_=>List AV) [] (λx _ ih=>ev x f::ih) l
def ilt (a b:Int):Bool:=Int.rec (motive:=λ_=>Int->Bool)
 (λm b=>Int.rec (motive:=λ_=>Bool) (λn=>Nat.blt m n) (λ_=>false) b)
 (λm b=>Int.rec (motive:=λ_=>Bool) (λ_=>true) (λn=>Nat.blt n m) b) a b
def ieq (a b:Int):Bool:=Int.rec (motive:=λ_=>Int->Bool)
 (λm b=>Int.rec (motive:=λ_=>Bool) (λn=>Nat.beq m n) (λ_=>false) b)
 (λm b=>Int.rec (motive:=λ_=>Bool) (λ_=>false) (λn=>Nat.beq m n) b) a b
def fits (k:IntKind) (n:Int):Bool:=Bool.rec (motive:=λ_=>Bool) (Bool.rec (motive:=λ_=>Bool) true false (ilt k.max n)) false (ilt n k.min)
def E1 (k:IntKind) (n:Int):Int:=Bool.rec (motive:=λ_=>Int) (k.wrap n) n (fits k n)
def kNo (k:IntKind):Nat:=IntKind.rec (motive:=λ_=>Nat) 0 1 2 3 4 5 6 7 k
def kEq (a b:IntKind):Bool:=Nat.beq (kNo a) (kNo b)
def Qh (a b:List Nat):Bool:=
 List.rec (motive:=λ_=>List Nat->Bool) (λb=>List.rec (motive:=λ_=>Bool) true (λ_ _ _=>false) b)
  (λx _ ih b=>List.rec (motive:=λ_=>Bool) false (λy b _=>Bool.rec (motive:=λ_=>Bool) false (ih b) (Nat.beq x y)) b) a b
def Gn (a b:List Nat):Bool:=
 List.rec (motive:=λ_=>List Nat->Bool) (λb=>List.rec (motive:=λ_=>Bool) false (λ_ _ _=>true) b)
  (λx _ ih b=>List.rec (motive:=λ_=>Bool) false (λy b _=>Bool.rec (motive:=λ_=>Bool) (Bool.rec (motive:=λ_=>Bool) false (ih b) (Nat.beq x y)) true (Nat.blt x y)) b) a b
inductive TK where|bad|bool|int|string|ptr|iface|struct (fs:List (TypeId × Nat))|array (n:Nat) (e:TypeId) (size:Nat)|slice|map|func
def tk (P:Program) (t:TypeId):TK:=
 match P.underlying t with
 |some .bool=>.bool
 |some (.int _)=>.int
 |some .string=>.string
 |some (.pointer e)=>match F7 P e with|some (_+1)=>.ptr|_=>.bad
 |some (.interface _)=>.iface
 |some (.struct fs)=>if P.stoodInHeld t then .bad else .struct ((fs.toList.filter λf=>f.name != "_").map λf=>(f.type,f.offset))
 |some (.array n e)=>match F7 P e with|some s=>.array n e s|none=>.bad
 |some (.slice _)=>.slice
 |some (.map _ _)=>.map
 |some (.func _ _ _)=>.func
 |_=>.bad
def Tn (i:Option (Option Nat)) (cs:List AV) (off:Nat):Option AV:=
 match i with
 |some none=>AcE cs off
 |some (some n)=>(Nf cs off n).map .agg
 |none=>none
def Hc (P:Program) (t:TypeId) (cs:List AV) (off:Nat):Option AV:=Tn (Ft P t) cs off
abbrev EqT:=TypeId->AV->AV->Option Bool
def Amw (P:Program) (eq:EqT):List (TypeId × Nat)->List AV->List AV->Option Bool
 |[],_,_=>some true
 |(t,o)::fs,a,b=>
  match Hc P t a o,Hc P t b o with
  |some x,some y=>match eq t x y with
   |some true=>Amw P eq fs a b
   |some false=>some false
   |none=>none
  |_,_=>none
def Amv (P:Program) (eq:EqT) (e:TypeId) (s:Nat):Nat->Nat->List AV->List AV->Option Bool
 |0,_,_,_=>some true
 |n+1,i,a,b=>
  match Hc P e a (i * s),Hc P e b (i * s) with
  |some x,some y=>match eq e x y with
   |some true=>Amv P eq e s n (i+1) a b
   |some false=>some false
   |none=>none
  |_,_=>none
def Dy (P:Program) (eq:EqT) (t:TypeId) (x y:AV):Option Bool:=
 match tk P t with
 |.bad=>none
 |.bool=>match vB x,vB y with|.yes a,.yes b=>some (a == b)|_,_=>none
 |.int=>match vI x,vI y with|.yes k a,.yes k' b=>(Bool.rec (motive:=λ_=>Option Bool) (none) (some (ieq a b)) (kEq k k'))|_,_=>none
 |.string=>match vS x,vS y with|.yes a,.yes b=>some (Qh a b)|_,_=>none
 |.ptr=>match vP x,vP y with
  |.nil,.nil=>some true
  |.nil,.yes _ _|.yes _ _,.nil=>some false
  |.yes b o,.yes b' o'=>(Bool.rec (motive:=λ_=>Option Bool) (none) (some (Nat.beq o o')) (Nat.beq b b'))
  |_,_=>none
 |.iface=>match vIf x,vIf y with
  |.nil,.nil=>some true
  |.nil,.yes _ _|.yes _ _,.nil=>some false
  |.yes a v,.yes b w=>(Bool.rec (motive:=λ_=>Option Bool) (some false) ((Bool.rec (motive:=λ_=>Option Bool) (none) (eq a v w) ((P.info? a).any (·.comparable)))) (Nat.beq a b))
  |_,_=>none
 |.struct fs=>match vA x,vA y with|.yes a,.yes b=>Amw P eq fs a b|_,_=>none
 |.array n e s=>match vA x,vA y with|.yes a,.yes b=>Amv P eq e s n 0 a b|_,_=>none
 |.slice=>match vL x,vL y with
  |.nil,.nil=>some true
  |.nil,.yes ..|.yes ..,.nil=>some false
  |_,_=>none
 |.map=>match vM x,vM y with
  |.nil,.nil=>some true
  |.nil,.yes ..|.yes ..,.nil=>some false
  |_,_=>none
 |.func=>match vF x,vF y with
  |.nil,.nil=>some true
  |.nil,.yes ..|.yes ..,.nil=>some false
  |_,_=>none
def aeq (P:Program):Nat->EqT
 |0=>λ_ _ _=>none
 |d+1=>Dy P (aeq P d)
def Py (v:Option AV) (h:H):OR:=Option.rec (motive:=λ_=>OR) (.bad 10) (λv=>.ok v h) v
def AnU (r:RH):OR:=RH.rec (motive:=λ_=>OR) .bad (λh=>.ok (.Bj []) h) r
def mk (h:H) (o:AO) (v:AV):OR:=.ok v (h.new o)
def Awr (x:Operand):V2:=λ_ _ _ f h=>.ok (ev x f) h
def Bo (x:AV):AV->AV->H->OR:=AV.rec (motive_1:=λ_=>AV->AV->H->OR) (motive_2:=λ_=>PUnit) (λ_ _ _=>.bad 11) (λb=>Bool.rec (motive:=λ_=>AV->AV->H->OR) (λ_ y h=>.ok y h) (λx _ h=>.ok x h) b) (λ_ _=>λ_ _ _=>.bad 11) (λ_=>λ_ _ _=>.bad 11) (λ_ _ _=>.bad 11) (λ_ _=>λ_ _ _=>.bad 11) (λ_ _ _=>.bad 11) (λ_ _ _ _ _ _=>λ_ _ _=>.bad 11) (λ_ _ _=>.bad 11) (λ_=>λ_ _ _=>.bad 11) (λ_ _ _ _ _=>λ_ _ _=>.bad 11) (λ_ _ _=>.bad 11) (λ_ _ _=>λ_ _ _=>.bad 11) (λ_ _ _=>.bad 11) (λ_ _=>λ_ _ _=>.bad 11) (λ_ _=>λ_ _ _=>.bad 11) PUnit.unit (λ_ _ _ _=>PUnit.unit) x
def A4U (c a b:Operand):V2:=λ_ _ _ f h=>Bo (ev c f) (ev a f) (ev b f) h
def AdR (cs:Option (List AV)) (e:TypeId) (h:H):OR:=Option.rec (motive:=λ_=>OR) (.bad 12) (λcs=>mk h (.cells cs e .exact) (.ptr h.nx 0)) cs
def Az1 (e:TypeId):V2:=λ_ P _ _ h=>AdR (I1 P e) e h
def A9R (e:TypeId) (x:Operand):V2:=λ_ _ _ f h=>AdR (cellsOf (ev x f)) e h
def places (P:Program) (t:TypeId):Option (List (Nat × Nat)):=
 match P.underlying t with
 |some (.struct fs)=>fs.toList.mapM λf=>(F7 P f.type).map λs=>(f.offset,s)
 |_=>none
def Xp (place:Nat->Option (Nat × Nat)) (f:L2):List (Nat × Operand)->List AV->Option (List AV)
 |[],cs=>some cs
 |(i,x)::rest,cs=>
  match place i,cellsOf (ev x f) with
  |some (off,size),some v=>match Ng cs v off with|some D7=>(Bool.rec (motive:=λ_=>Option (List AV)) (none) (Xp place f rest D7) (Nat.beq (Q4 v) size))|none=>none
  |_,_=>none
def Xc (s:Nat) (i:Nat):Option (Nat × Nat):=some (i * s,s)
inductive BI where|bad|struct (pl:List (Nat × Nat)) (z:List AV)|arr (s:Nat) (z:List AV)
def AgS (P:Program) (t:TypeId):BI:=
 match I1 P t,P.underlying t with
 |some z,some (.struct _)=>match places P t with|some pl=>.struct pl z|none=>.bad
 |some z,some (.array _ e)=>match F7 P e with|some s=>.arr s z|none=>.bad
 |_,_=>.bad
def Ly (c:Option (List AV)) (h:H):OR:=Option.rec (motive:=λ_=>OR) (.bad 14) (λcs=>.ok (.agg cs) h) c
def Tg (t:TypeId) (parts:Array (Nat × Operand)):V2:=λ_ P _ f h=>
 match AgS P t with
 |.struct pl z=>Ly (Xp (λi=>pl[i]?) f parts.toList z) h
 |.arr s z=>Ly (Xp (Xc s) f parts.toList z) h
 |.bad=>.bad 18
def Ade (z:List AV):Nat->List AV
 |0=>[]
 |n+1=>J0 z (Ade z n)
def Gj (n:Nat):Bool:=Nat.blt n 1000000000000
def Gz (t:TypeId) (len:Nat) (parts:Array (Nat × Operand)):V2:=λ_ P _ f h=>
 match Tw P t with
 |some i=>match I1 P i.e with
  |some z=>match Xp (Xc i.s) f parts.toList (Ade z len) with
   |some cs=>(Bool.rec (motive:=λ_=>OR) (.bad 19) (mk h (.cells cs i.e .exact) (.sl h.nx 0 len len i.s true)) (Nat.blt (len * i.s) 1000000))
   |none=>.bad 20
  |none=>.bad 21
 |none=>.bad 22
def ldL (i:Option (Option Nat)):List AV->Nat->H->OR:=Option.rec (motive:=λ_=>List AV->Nat->H->OR) (λ_ _ _=>.bad 23)
 (λi=>Option.rec (motive:=λ_=>List AV->Nat->H->OR) (λc o h=>Py (AcE c o) h) (λn c o h=>Ly (Nf c o n) h) i) i
def ldC (c:Option (List AV)):Option (Option Nat)->Nat->H->OR:=Option.rec (motive:=λ_=>Option (Option Nat)->Nat->H->OR) (λ_ _ _=>.bad 24) (λc i=>ldL i c) c
def ldV (x:AV):Option (Option Nat)->H->OR:=AV.rec (motive_1:=λ_=>Option (Option Nat)->H->OR) (motive_2:=λ_=>PUnit) (λ_ _=>.bad 25) (λ_=>λ_ _=>.bad 25) (λ_ _=>λ_ _=>.bad 25) (λ_=>λ_ _=>.bad 25) (λ_ _=>.bad 25) (λb o=>λi h=>ldC (H.rd h b) i o h) (λ_ _=>.bad 25) (λ_ _ _ _ _ _=>λ_ _=>.bad 25) (λ_ _=>.bad 25) (λ_=>λ_ _=>.bad 25) (λ_ _ _ _ _=>λ_ _=>.bad 25) (λ_ _=>.bad 25) (λ_ _ _=>λ_ _=>.bad 25) (λ_ _=>.bad 25) (λ_ _=>λ_ _=>.bad 25) (λ_ _=>λ_ _=>.bad 25) PUnit.unit (λ_ _ _ _=>PUnit.unit) x
def A4T (t:TypeId) (a:Operand):V2:=λ_ P _ f h=>ldV (ev a f) (Ft P t) h
def stC (cs:Option (List AV)) (n:Option Nat) (b off:Nat) (h:H):OR:=
 match cs,n with
 |some cs,some n=>(Bool.rec (motive:=λ_=>OR) (.bad 26) ((Bool.rec (motive:=λ_=>OR) (.bad 26) (AnU (h.wr b off cs)) (Bm cs))) (Nat.beq (Q4 cs) n))
 |_,_=>.bad 26
def stV (x:AV):Option (List AV)->Option Nat->H->OR:=AV.rec (motive_1:=λ_=>Option (List AV)->Option Nat->H->OR) (motive_2:=λ_=>PUnit) (λ_ _ _=>.bad 27) (λ_=>λ_ _ _=>.bad 27) (λ_ _=>λ_ _ _=>.bad 27) (λ_=>λ_ _ _=>.bad 27) (λ_ _ _=>.bad 27) (λb o=>λcs n h=>stC cs n b o h) (λ_ _ _=>.bad 27) (λ_ _ _ _ _ _=>λ_ _ _=>.bad 27) (λ_ _ _=>.bad 27) (λ_=>λ_ _ _=>.bad 27) (λ_ _ _ _ _=>λ_ _ _=>.bad 27) (λ_ _ _=>.bad 27) (λ_ _ _=>λ_ _ _=>.bad 27) (λ_ _ _=>.bad 27) (λ_ _=>λ_ _ _=>.bad 27) (λ_ _=>λ_ _ _=>.bad 27) PUnit.unit (λ_ _ _ _=>PUnit.unit) x
def Az3 (t:TypeId) (a x:Operand):V2:=λ_ P _ f h=>stV (ev a f) (cellsOf (ev x f)) (F7 P t) h
def AxW (f:Fn):Bool:=match f with|.func _=>true|_=>false
def notNil (x:AV):Bool:=AV.rec (motive_1:=λ_=>Bool) (motive_2:=λ_=>PUnit) (false) (λ_=>false) (λ_ _=>true) (λ_=>false) (false) (λ_ _=>true) (false) (λ_ _ _ _ _ _=>false) (false) (λ_=>true) (λf _ _ _ _=>AxW f) (false) (λ_ _ _=>true) (false) (λ_ _=>false) (λ_ _=>false) PUnit.unit (λ_ _ _ _=>PUnit.unit) x
def Uu (x:Operand):V2:=λ_ _ _ f h=>(Bool.rec (motive:=λ_=>OR) (.bad 28) (.ok (ev x f) h) (notNil (ev x f)))
def AzJ (x y:List Nat):List Nat:=List.rec (motive:=λ_=>List Nat) y (λa _ ih=>a::ih) x
abbrev II:=IntKind->Int->IntKind->Int->H->OR
def iAr (g:Int->Int->Int):II:=λk a k' b h=>(Bool.rec (motive:=λ_=>OR) (.bad 30) (.ok (.int k (E1 k (g a b))) h) (kEq k k'))
def A4x:II:=λk a k' b h=>(Bool.rec (motive:=λ_=>OR) (.bad 30) ((Bool.rec (motive:=λ_=>OR) (.ok (.int k (E1 k (Int.tdiv a b))) h) (.bad 31) (ieq b 0))) (kEq k k'))
def A4y:II:=λk a k' b h=>(Bool.rec (motive:=λ_=>OR) (.bad 30) ((Bool.rec (motive:=λ_=>OR) (.ok (.int k (Int.tmod a b)) h) (.bad 31) (ieq b 0))) (kEq k k'))
def Akn (n:Int):Option Nat:=Int.rec (motive:=λ_=>Option Nat) some (λ_=>none) n
def Anl (g:Nat->Nat->Nat):II:=λk a k' b h=>
 match Akn a,Akn b with
 |some m,some n=>(Bool.rec (motive:=λ_=>OR) (.bad 30) ((Bool.rec (motive:=λ_=>OR) (.bad 32) ((Bool.rec (motive:=λ_=>OR) (.bad 32) (.ok (.int k (.ofNat (g m n))) h) (fits k b))) (fits k a))) (kEq k k'))
 |_,_=>.bad 32
def AtZ:II:=λk a _ b h=>match Akn b with|some n=>.ok (.int k (E1 k (Int.mul a (.ofNat (Nat.pow 2 (Nat.min n k.bits)))))) h|none=>.bad 33
def Aua:II:=λk a _ b h=>match Akn a,Akn b with|some m,some n=>.ok (.int k (.ofNat (Nat.div m (Nat.pow 2 (Nat.min n k.bits))))) h|_,_=>.bad 34
def AjY (g:Int->Int->Bool):II:=λk a k' b h=>(Bool.rec (motive:=λ_=>OR) (.bad 30) (.ok (.bool (g a b)) h) (kEq k k'))
def Ib (b:Bool):Bool:=Bool.rec (motive:=λ_=>Bool) true false b
def Aju (a b:Bool):Bool:=Bool.rec (motive:=λ_=>Bool) (Ib b) b a
def AqP (op:BinOp):II:=BinOp.rec (motive:=λ_=>II) (iAr Int.add) (iAr Int.sub) (iAr Int.mul) A4x A4y (Anl Nat.land) (Anl Nat.lor) (Anl Nat.xor) AtZ Aua (λ_ _ _ _ _=>.bad 35)
 (AjY ieq) (AjY λa b=>Ib (ieq a b)) (AjY ilt) (AjY λa b=>Ib (ilt b a)) (AjY λa b=>ilt b a) (AjY λa b=>Ib (ilt a b)) op
abbrev SSt:=List Nat->List Nat->H->OR
def AnZ (g:List Nat->List Nat->Bool):SSt:=λa b h=>.ok (.bool (g a b)) h
def AdX:SSt:=λ_ _ _=>.bad 36
def Y2 (s:List Nat):Nat:=List.rec (motive:=λ_=>Nat) 0 (λ_ _ ih=>Nat.succ ih) s
def Bab:SSt:=λa b h=>(Bool.rec (motive:=λ_=>OR) (.bad 37) (.ok (.str (AzJ a b)) h) (Gj (Nat.add (Y2 a) (Y2 b))))
def AuB (op:BinOp):SSt:=BinOp.rec (motive:=λ_=>SSt) Bab AdX AdX AdX AdX AdX AdX AdX AdX AdX AdX
 (AnZ Qh) (AnZ λa b=>Ib (Qh a b)) (AnZ Gn) (AnZ λa b=>Ib (Gn b a)) (AnZ λa b=>Gn b a) (AnZ λa b=>Ib (Gn a b)) op
def Nq (P:Program) (t:TypeId):Bool:=Ib (P.eqGuardType P.depth t)
def isConst (x:Operand):Bool:=Operand.rec (motive:=λ_=>Bool) (λ_=>false) (λ_=>true) (λ_=>false) (λ_=>false) x
def O6 (x:AV):Nat:=AV.rec (motive_1:=λ_=>Nat) (motive_2:=λ_=>PUnit) (3) (λ_=>2) (λ_ _=>3) (λ_=>3) (2) (λ_ _=>2) (2) (λ_ _ _ _ _ _=>2) (2) (λ_=>2) (λ_ _ _ _ _=>2) (2) (λ_ _ _=>2) (0) (λ_ _=>1) (λ_ _=>3) PUnit.unit (λ_ _ _ _=>PUnit.unit) x
def Xm (P:Program) (t:TypeId) (Sm:Bool) (a b:Nat):Bool:=
 match a,b with
 |0,0=>Sm
 |1,1=>Nq P t
 |0,2|2,0|2,2=>true
 |_,_=>false
def Xe (neg:Bool) (P:Program) (t:TypeId) (x y:AV) (Sm:Bool) (h:H):OR:=
 (Bool.rec (motive:=λ_=>OR) (.bad 39) ((match aeq P 20 t x y with|some b=>OR.ok (.bool (neg != b)) h|none=>.bad 38)) (Xm P t Sm (O6 x) (O6 y)))
abbrev BG:=AV->AV->BinOp->TypeId->Bool->Program->H->OR
def Ij:BG:=λx y op t c P h=>match op with|.eql=>Xe false P t x y c h|.neq=>Xe true P t x y c h|_=>.bad 40
def Apv (y:AV):IntKind->Int->BinOp->H->OR:=AV.rec (motive_1:=λ_=>IntKind->Int->BinOp->H->OR) (motive_2:=λ_=>PUnit) (λ_ _ _ _=>.bad 41) (λ_=>λ_ _ _ _=>.bad 41) (λk n=>λk' a op h=>AqP op k' a k n h) (λ_=>λ_ _ _ _=>.bad 41) (λ_ _ _ _=>.bad 41) (λ_ _=>λ_ _ _ _=>.bad 41) (λ_ _ _ _=>.bad 41) (λ_ _ _ _ _ _=>λ_ _ _ _=>.bad 41) (λ_ _ _ _=>.bad 41) (λ_=>λ_ _ _ _=>.bad 41) (λ_ _ _ _ _=>λ_ _ _ _=>.bad 41) (λ_ _ _ _=>.bad 41) (λ_ _ _=>λ_ _ _ _=>.bad 41) (λ_ _ _ _=>.bad 41) (λ_ _=>λ_ _ _ _=>.bad 41) (λ_ _=>λ_ _ _ _=>.bad 41) PUnit.unit (λ_ _ _ _=>PUnit.unit) y
def Apx (y:AV):List Nat->BinOp->H->OR:=AV.rec (motive_1:=λ_=>List Nat->BinOp->H->OR) (motive_2:=λ_=>PUnit) (λ_ _ _=>.bad 42) (λ_=>λ_ _ _=>.bad 42) (λ_ _=>λ_ _ _=>.bad 42) (λs=>λa op h=>AuB op a s h) (λ_ _ _=>.bad 42) (λ_ _=>λ_ _ _=>.bad 42) (λ_ _ _=>.bad 42) (λ_ _ _ _ _ _=>λ_ _ _=>.bad 42) (λ_ _ _=>.bad 42) (λ_=>λ_ _ _=>.bad 42) (λ_ _ _ _ _=>λ_ _ _=>.bad 42) (λ_ _ _=>.bad 42) (λ_ _ _=>λ_ _ _=>.bad 42) (λ_ _ _=>.bad 42) (λ_ _=>λ_ _ _=>.bad 42) (λ_ _=>λ_ _ _=>.bad 42) PUnit.unit (λ_ _ _ _=>PUnit.unit) y
def Atc (x:AV):BG:=AV.rec (motive_1:=λ_=>BG) (motive_2:=λ_=>PUnit) (λ_ _ _ _ _ _ _=>.bad 43) (λ_=>Ij) (λk n=>λ_ y op _ _ _ h=>Apv y k n op h) (λs=>λ_ y op _ _ _ h=>Apx y s op h) (Ij) (λ_ _=>Ij) (Ij) (λ_ _ _ _ _ _=>Ij) (Ij) (λ_=>Ij) (λ_ _ _ _ _=>Ij) (Ij) (λ_ _ _=>Ij) (Ij) (λ_ _=>Ij) (λ_ _=>Ij) PUnit.unit (λ_ _ _ _=>PUnit.unit) x
def AfX (op:BinOp) (t:TypeId) (x y:Operand) (_:TypeId):V2:=λ_ P _ f h=>Atc (ev x f) (ev x f) (ev y f) op t (Bool.rec (motive:=λ_=>Bool) (isConst y) true (isConst x)) P h
def AaP (op:UnOp) (_:TypeId) (x:Operand):V2:=λ_ _ _ f h=>
 match op with
 |.not=>match vB (ev x f) with|.yes b=>.ok (.bool (Ib b)) h|.no=>.bad 44
 |.neg=>match vI (ev x f) with|.yes k n=>.ok (.int k (E1 k (Int.sub 0 n))) h|.no=>.bad 45
 |_=>.bad 46
inductive CV where|bad|toU|ofU (u:TypeId)|int (k:IntKind)|str|rune|Agl (e:TypeId)|ofBytes
def ApL (P:Program) (s d:TypeId):CV:=
 match P.underlying s,P.underlying d with
 |some (.int _),some (.int k)=>.int k
 |some .string,some .string=>.str
 |some .string,some (.slice e)=>match P.underlying e,F7 P e with|some (.int .u8),some 1=>.Agl e|_,_=>.bad
 |some (.slice e),some .string=>match P.underlying e with|some (.int .u8)=>.ofBytes|_=>.bad
 |some (.pointer e),some .unsafePointer=>match F7 P e with|some (_+1)=>.toU|_=>.bad
 |some .unsafePointer,some (.pointer u)=>match F7 P u with|some (_+1)=>.ofU u|_=>.bad
 |_,_=>.bad
def U2 (s:List Nat):List AV:=List.rec (motive:=λ_=>List AV) [] (λa _ ih=>.int .u8 (.ofNat a)::ih) s
def Xf (x:AV):Option Nat:=match vI x with|.yes .u8 (.ofNat n)=>(Bool.rec (motive:=λ_=>Option Nat) (none) (some n) (Nat.blt n 256))|_=>none
def Yj (s:List AV):Option (List Nat):=List.rec (motive:=λ_=>Option (List Nat)) (some [])
 (λa _ ih=>match Xf a,ih with|some n,some r=>some (n::r)|_,_=>none) s
def Awp (P:Program) (e:TypeId) (n off:Nat) (u:TypeId):Bool:=liesAt P P.depth e (n / P.cellsOf e) off u 1
def Ml (s d:TypeId) (x:Operand):V2:=λ_ P _ f h=>
 match ApL P s d with
 |.int k=>match vI (ev x f) with|.yes _ n=>.ok (.int k (E1 k n)) h|.no=>.bad 47
 |.str=>match vS (ev x f) with|.yes s=>.ok (.str s) h|.no=>.bad 48
 |.rune=>match vI (ev x f) with|.yes _ (.ofNat n)=>(Bool.rec (motive:=λ_=>OR) (.bad 49) (.ok (.str [n]) h) (Nat.blt n 128))|_=>.bad 50
 |.Agl e=>match vS (ev x f) with
  |.yes s=>(Bool.rec (motive:=λ_=>OR) (.bad 51) (.ok (.sl (Nat.succ h.nx) 0 (Y2 s) (Y2 s) 1 false) ((h.new (.Fb 0)).new (.cells (U2 s) e (.Gt h.nx)))) (Gj (Y2 s)))
  |.no=>.bad 52
 |.ofBytes=>match vL (ev x f) with
  |.nil=>.ok (.str []) h
  |.yes b off len _ _ _=>match h.rd b with
   |some c=>match Nf c off len with
    |some cs=>match Yj cs with|some s=>.ok (.str s) h|none=>.bad 53
    |none=>.bad 54
   |none=>.bad 55
  |.no=>.bad 56
 |.toU=>match vP (ev x f) with
  |.nil=>.ok .Ob h
  |.yes b off=>(match h.rd b with|some c=>(Bool.rec (motive:=λ_=>OR) (.bad 57) (.ok (.ptr b off) h) (Nat.blt off (Q4 c)))|none=>.bad 58)
  |.no=>.bad 59
 |.ofU u=>match vP (ev x f) with
  |.nil=>.ok .Ob h
  |.yes b off=>(match h.m.get b with|.cells c e .exact=>(Bool.rec (motive:=λ_=>OR) (.bad 60) (.ok (.ptr b off) h) (Awp P e (Q4 c) off u))|_=>.bad 61)
  |.no=>.bad 62
 |.bad=>.bad 63
def Arb (P:Program) (t:TypeId):Bool:=match P.underlying t with|some (.interface _)|none=>false|some _=>true
def Rb (t:TypeId) (x:Operand):V2:=λ_ P _ f h=>(Bool.rec (motive:=λ_=>OR) (.bad 64) (.ok (.I6 t (ev x f)) h) (Arb P t))
def Jt (fn:Fn) (a c:Array Operand):V2:=λ_ _ _ f h=>match fn with|.yield _=>.bad 65|fn=>.ok (.fn fn (W1 a.toList f) (W1 c.toList f)) h
def Aii (_:TypeId) (r:Option Operand):V2:=λ_ _ _ _ h=>match r with|none=>mk h (.map []) (.map h.nx)|some _=>.bad 66
def Arm (x:AV):Option Nat:=match vI x with|.yes .i64 (.ofNat n)=>some n|_=>none
def H5 (t:TypeId) (l c:Operand):V2:=λ_ P _ f h=>
 match Tw P t,Arm (ev l f),Arm (ev c f) with
 |some i,some n,some m=>match I1 P i.e with
  |some z=>(Bool.rec (motive:=λ_=>OR) (.bad 68) ((Bool.rec (motive:=λ_=>OR) (.bad 67) (mk h (.cells (Ade z m) i.e .exact) (.sl h.nx 0 n m i.s true)) (Gj (m * (i.bytes+i.s+1))))) (Nat.ble n m))
  |none=>.bad 69
 |_,_,_=>.bad 70
def Vg (x:AV):Option Nat:=AV.rec (motive_1:=λ_=>Option Nat) (motive_2:=λ_=>PUnit) (none) (λ_=>none) (λ_ n=>Akn n) (λ_=>none) (none) (λ_ _=>none) (none) (λ_ _ _ _ _ _=>none) (none) (λ_=>none) (λ_ _ _ _ _=>none) (none) (λ_ _ _=>none) (none) (λ_ _=>none) (λ_ _=>none) PUnit.unit (λ_ _ _ _=>PUnit.unit) x
def bnd (f:L2) (x:Option Operand) (d:Nat):Option Nat:=Option.rec (motive:=λ_=>Option Nat) (some d) (λx=>Vg (ev x f)) x
def Aw1 (s:List Nat):Nat->List Nat:=List.rec (motive:=λ_=>Nat->List Nat) (λ_=>[])
 (λa l ih n=>Nat.rec (motive:=λ_=>List Nat) (a::l) (λm _=>ih m) n) s
def Aw2 (n:Nat):List Nat->List Nat:=Nat.rec (motive:=λ_=>List Nat->List Nat) (λ_=>[])
 (λ_ ih l=>List.rec (motive:=λ_=>List Nat) [] (λa l _=>a::ih l) l) n
def Ai9 (s:List Nat) (l u:Option Nat) (h:H):OR:=
 match l,u with
 |some l,some u=>(Bool.rec (motive:=λ_=>OR) (.bad 71) ((Bool.rec (motive:=λ_=>OR) (.bad 71) (.ok (.str (Aw2 (Nat.sub u l) (Aw1 s l))) h) (Nat.ble u (Y2 s)))) (Nat.ble l u))
 |_,_=>.bad 72
def AkE (b off cap sz:Nat) (ex:Bool) (l u:Nat) (h:H):OR:=
 (Bool.rec (motive:=λ_=>OR) (.bad 74) ((Bool.rec (motive:=λ_=>OR) (.bad 74) ((Bool.rec (motive:=λ_=>OR) ((Bool.rec (motive:=λ_=>OR) ((Bool.rec (motive:=λ_=>OR) (.ok (.sl b (Nat.succ off) 0 0 0 false) h) (.ok (.sl b off 0 0 sz ex) h) (Nat.beq l 0))) (.ok (.sl b off 0 0 sz true) h) (ex))) (.ok (.sl b (off+l * sz) (Nat.sub u l) (Nat.sub cap l) sz ex) h) (Nat.blt l cap))) (Nat.ble u cap))) (Nat.ble l u))
def Amj (b off cap sz l u c:Nat) (h:H):OR:=
 (Bool.rec (motive:=λ_=>OR) (.bad 75) ((Bool.rec (motive:=λ_=>OR) (.bad 75) ((Bool.rec (motive:=λ_=>OR) (.bad 75) (.ok (.sl b ((Bool.rec (motive:=λ_=>Nat) (off+l * sz) (off) (Nat.beq c l))) (Nat.sub u l) (Nat.sub c l) sz true) h) (Nat.ble c cap))) (Nat.ble u c))) (Nat.ble l u))
def A4a (hi mx:Option Operand):Bool:=match mx with|none=>true|some _=>hi.isSome
def G5 (t:TypeId) (x:Operand) (lo hi mx:Option Operand):V2:=λ_ P _ f h=>
 match Hp P t with
 |.str=>match vS (ev x f),mx with
  |.yes s,none=>Ai9 s (bnd f lo 0) (bnd f hi (Y2 s)) h
  |_,_=>.bad 76
 |.sl i=>match vL (ev x f) with
  |.nil=>match bnd f lo 0,bnd f hi 0,bnd f mx 0 with
   |some 0,some 0,some 0=>.ok .Bv h
   |_,_,_=>.bad 77
  |.yes b off len cap sz ex=>match bnd f lo 0,bnd f hi len,mx with
   |some l,some u,none=>(Bool.rec (motive:=λ_=>OR) (.bad 78) (AkE b off cap sz ex l u h) (Nat.beq sz i.s))
   |some l,some u,some m=>match Vg (ev m f) with
    |some c=>(Bool.rec (motive:=λ_=>OR) (.bad 78) (Amj b off cap sz l u c h) (Nat.beq sz i.s))
    |none=>.bad 79
   |_,_,_=>.bad 80
  |.no=>.bad 81
 |.arr n i=>match vP (ev x f),bnd f lo 0,bnd f hi n,mx with
  |.yes b off,some l,some u,none=>Amj b off n i.s l u n h
  |_,_,_,_=>.bad 82
 |.bad=>.bad 83
def Aac (t:TypeId) (x:Operand) (lo hi mx:Option Operand):V2:=λty P ctx f h=>(Bool.rec (motive:=λ_=>OR) (.bad 84) (G5 t x lo hi mx ty P ctx f h) (A4a hi mx))
def Xu (P:Program) (t:TypeId) (i:Nat):Option (TypeId × Nat):=
 match P.underlying t with
 |some (.struct fs)=>match fs[i]? with|some f=>some (f.type,f.offset)|none=>none
 |_=>none
def Wa (P:Program) (t:TypeId) (i:Nat):Option Nat:=
 match Xu P t i with
 |some (u,o)=>match F7 P u with|some (_+1)=>some o|_=>none
 |none=>none
def Bs (x:AV):Nat->H->OR:=AV.rec (motive_1:=λ_=>Nat->H->OR) (motive_2:=λ_=>PUnit) (λ_ _=>.bad 84) (λ_=>λ_ _=>.bad 84) (λ_ _=>λ_ _=>.bad 84) (λ_=>λ_ _=>.bad 84) (λ_ _=>.bad 84) (λb o=>λd h=>.ok (.ptr b (Nat.add o d)) h) (λ_ _=>.bad 84) (λ_ _ _ _ _ _=>λ_ _=>.bad 84) (λ_ _=>.bad 84) (λ_=>λ_ _=>.bad 84) (λ_ _ _ _ _=>λ_ _=>.bad 84) (λ_ _=>.bad 84) (λ_ _ _=>λ_ _=>.bad 84) (λ_ _=>.bad 84) (λ_ _=>λ_ _=>.bad 84) (λ_ _=>λ_ _=>.bad 84) PUnit.unit (λ_ _ _ _=>PUnit.unit) x
def Q9 (t:TypeId) (x:Operand) (i:Nat):V2:=λ_ P _ f h=>Option.rec (motive:=λ_=>AV->H->OR) (λ_ _=>.bad 85) (λd x h=>Bs x d h) (Wa P t i) (ev x f) h
def Al4 (P:Program) (t:TypeId) (i:Nat):Option (Option (Option Nat) × Nat):=(Xu P t i).map λp=>(Ft P p.1,p.2)
def Ti (t:TypeId) (x:Operand) (i:Nat):V2:=λ_ P _ f h=>
 match vA (ev x f),Al4 P t i with
 |.yes cs,some (i,o)=>Py (Tn i cs o) h
 |_,_=>.bad 86
def iaS (x:AV):Nat->Nat->H->OR:=AV.rec (motive_1:=λ_=>Nat->Nat->H->OR) (motive_2:=λ_=>PUnit) (λ_ _ _=>.bad 87) (λ_=>λ_ _ _=>.bad 87) (λ_ _=>λ_ _ _=>.bad 87) (λ_=>λ_ _ _=>.bad 87) (λ_ _ _=>.bad 87) (λ_ _=>λ_ _ _=>.bad 87) (λ_ _ _=>.bad 87) (λb o l _ _ _=>λn s h=>(Bool.rec (motive:=λ_=>OR) (.bad 88) (.ok (.ptr b (Nat.add o (Nat.mul n s))) h) (Nat.blt n l))) (λ_ _ _=>.bad 87) (λ_=>λ_ _ _=>.bad 87) (λ_ _ _ _ _=>λ_ _ _=>.bad 87) (λ_ _ _=>.bad 87) (λ_ _ _=>λ_ _ _=>.bad 87) (λ_ _ _=>.bad 87) (λ_ _=>λ_ _ _=>.bad 87) (λ_ _=>λ_ _ _=>.bad 87) PUnit.unit (λ_ _ _ _=>PUnit.unit) x
def iaA (x:AV):Nat->Nat->Nat->H->OR:=AV.rec (motive_1:=λ_=>Nat->Nat->Nat->H->OR) (motive_2:=λ_=>PUnit) (λ_ _ _ _=>.bad 89) (λ_=>λ_ _ _ _=>.bad 89) (λ_ _=>λ_ _ _ _=>.bad 89) (λ_=>λ_ _ _ _=>.bad 89) (λ_ _ _ _=>.bad 89) (λb o=>λlen n s h=>(Bool.rec (motive:=λ_=>OR) (.bad 90) (.ok (.ptr b (Nat.add o (Nat.mul n s))) h) (Nat.blt n len))) (λ_ _ _ _=>.bad 89) (λ_ _ _ _ _ _=>λ_ _ _ _=>.bad 89) (λ_ _ _ _=>.bad 89) (λ_=>λ_ _ _ _=>.bad 89) (λ_ _ _ _ _=>λ_ _ _ _=>.bad 89) (λ_ _ _ _=>.bad 89) (λ_ _ _=>λ_ _ _ _=>.bad 89) (λ_ _ _ _=>.bad 89) (λ_ _=>λ_ _ _ _=>.bad 89) (λ_ _=>λ_ _ _ _=>.bad 89) PUnit.unit (λ_ _ _ _=>PUnit.unit) x
def iaX (i:XI):AV->Option Nat->H->OR:=XI.rec (motive:=λ_=>AV->Option Nat->H->OR) (λ_ _ _=>.bad 91) (λ_ _ _=>.bad 91)
 (λi x n h=>Option.rec (motive:=λ_=>OR) (.bad 92) (λn=>iaS x n i.s h) n) (λlen i x n h=>Option.rec (motive:=λ_=>OR) (.bad 92) (λn=>iaA x len n i.s h) n) i
def Ra (t:TypeId) (x i:Operand):V2:=λ_ P _ f h=>iaX (Hp P t) (ev x f) (Vg (ev i f)) h
def stl (x:Option (List Nat)):Option (List Nat):=Option.rec (motive:=λ_=>Option (List Nat)) none (λl=>List.rec (motive:=λ_=>Option (List Nat)) none (λ_ t _=>some t) l) x
def shd (x:Option (List Nat)):Option Nat:=Option.rec (motive:=λ_=>Option Nat) none (λl=>List.rec (motive:=λ_=>Option Nat) none (λa _ _=>some a) l) x
def Adh (l:List Nat) (n:Nat):Option (List Nat):=Nat.rec (motive:=λ_=>Option (List Nat)) (some l) (λ_ ih=>stl ih) n
def AuN (s:List Nat) (n:Nat):Option Nat:=shd (Adh s n)
def Uv (n:Option Nat) (h:H):OR:=Option.rec (motive:=λ_=>OR) (.bad 93) (λn=>.ok (.int .u8 (.ofNat n)) h) n
def ixS (x:AV):Nat->H->OR:=AV.rec (motive_1:=λ_=>Nat->H->OR) (motive_2:=λ_=>PUnit) (λ_ _=>.bad 94) (λ_=>λ_ _=>.bad 94) (λ_ _=>λ_ _=>.bad 94) (λs=>λn h=>Uv (AuN s n) h) (λ_ _=>.bad 94) (λ_ _=>λ_ _=>.bad 94) (λ_ _=>.bad 94) (λ_ _ _ _ _ _=>λ_ _=>.bad 94) (λ_ _=>.bad 94) (λ_=>λ_ _=>.bad 94) (λ_ _ _ _ _=>λ_ _=>.bad 94) (λ_ _=>.bad 94) (λ_ _ _=>λ_ _=>.bad 94) (λ_ _=>.bad 94) (λ_ _=>λ_ _=>.bad 94) (λ_ _=>λ_ _=>.bad 94) PUnit.unit (λ_ _ _ _=>PUnit.unit) x
def Tj (t:TypeId) (x i:Operand):V2:=λ_ P _ f h=>
 match Hp P t,Vg (ev i f) with
 |.str,some n=>ixS (ev x f) n h
 |.arr len si,some n=>match vA (ev x f) with
  |.yes cs=>(Bool.rec (motive:=λ_=>OR) (.bad 95) (Py (Hc P si.e cs (n * si.s)) h) (Nat.blt n len))
  |.no=>.bad 96
 |_,_=>.bad 97
def scalar (P:Program) (t:TypeId):Bool:=
 match tk P t with
 |.int|.string|.bool=>true
 |_=>false
def AaA (x:AV):Bool:=match x with|.bool _|.int _ _|.str _=>true|_=>false
def Apt (x y:AV):Bool:=match x,y with
 |.bool a,.bool b=>Aju a b
 |.int k a,.int k' b=>Bool.rec (motive:=λ_=>Bool) false (ieq a b) (kEq k k')
 |.str a,.str b=>Qh a b
 |_,_=>false
def Sh:List AV->List AV->Bool
 |[],[]=>true
 |x::l,y::m=>Bool.rec (motive:=λ_=>Bool) false (Sh l m) (Apt x y)
 |_,_=>false
def AlK (P:Program) (t:TypeId):Bool:=
 match tk P t with
 |.int|.string|.bool|.struct _|.array _ _ _=>true
 |_=>false
def Fe (P:Program) (t:TypeId) (x:AV):Bool:=
 match tk P t with
 |.int|.string|.bool=>true
 |.struct fs=>(match vA x with|.yes cs=>fs.all (λp=>scalar P p.1&&(Hc P p.1 cs p.2).isSome)|.no=>false)
 |.array n e s=>(match vA x with|.yes cs=>scalar P e&&(List.range n).all (λi=>(Hc P e cs (i * s)).isSome)|.no=>false)
 |_=>false
def Up (P:Program) (t:TypeId) (x y:AV):Bool:=
 match tk P t with
 |.struct _|.array _ _ _=>(match vA x,vA y with|.yes a,.yes b=>Sh b a|_,_=>false)
 |_=>true
def Gy (P:Program) (t:TypeId) (x y:AV):Option Bool:=
 match aeq P 3 t x y with
 |some true=>(Bool.rec (motive:=λ_=>Option Bool) (none) (some true) (Up P t x y))
 |some false=>some false
 |none=>none
def M1 (eq:AV->Option Bool):List (AV × AV)->Option (Option AV)
 |[]=>some none
 |e::es=>match eq e.1 with
  |some true=>some (some e.2)
  |some false=>M1 eq es
  |none=>none
def Z7 (eq:AV->Option Bool) (k v:AV):List (AV × AV)->Option (List (AV × AV))
 |[]=>some [(k,v)]
 |e::es=>match eq e.1 with
  |some true=>some ((k,v)::es)
  |some false=>match Z7 eq k v es with|some r=>some (e::r)|none=>none
  |none=>none
structure MI where
 kt:TypeId
 z:AV
def AlU (P:Program) (t:TypeId):Option MI:=
 match P.underlying t with
 |some (.map kt et)=>match Ps P et,AlK P kt with|some z,true=>some ⟨kt,z⟩|_,_=>none
 |_=>none
def entries (x:AV) (h:H):Option (List (AV × AV)):=
 match vM x with
 |.nil=>some []
 |.yes r=>(match h.m.get r with|.map es=>some es|_=>none)
 |.no=>none
def Pe (t:TypeId) (x i:Operand) (ok:Bool):V2:=λ_ P _ f h=>
 match AlU P t,entries (ev x f) h with
 |some mi,some es=>match (Bool.rec (motive:=λ_=>Option (Option AV)) (none) (M1 (Gy P mi.kt (ev i f)) es) (Fe P mi.kt (ev i f))) with
  |some (some v)=>.ok ((Bool.rec (motive:=λ_=>AV) (v) (.Bj [v,.bool true]) (ok))) h
  |some none=>.ok ((Bool.rec (motive:=λ_=>AV) (mi.z) (.Bj [mi.z,.bool false]) (ok))) h
  |none=>.bad 98
 |_,_=>.bad 99
def E6 (t:TypeId) (m k x:Operand):V2:=λ_ P _ f h=>
 match AlU P t,vM (ev m f) with
 |some mi,.yes r=>
  (match h.m.get r with
  |.map es=>match (Bool.rec (motive:=λ_=>Option (List (AV × AV))) (none) (Z7 (Gy P mi.kt (ev k f)) (ev k f) (ev x f) es) (Fe P mi.kt (ev k f))) with|some Y8=>.ok (.Bj []) (h.put r (.map Y8))|none=>.bad 100
  |_=>.bad 101)
 |_,_=>.bad 102
def AkI (P:Program) (t:TypeId):Option AV:=
 match P.underlying t with
 |some (.interface _)|none=>none
 |some _=>Ps P t
def G0 (x:Operand) (_ ast:TypeId) (ok:Bool):V2:=λ_ P _ f h=>
 match AkI P ast,vIf (ev x f) with
 |some z,.nil=>(Bool.rec (motive:=λ_=>OR) (.bad 103) (.ok (.Bj [z,.bool false]) h) (ok))
 |some z,.yes t v=>(Bool.rec (motive:=λ_=>OR) ((Bool.rec (motive:=λ_=>OR) (.bad 104) (.ok (.Bj [z,.bool false]) h) (ok))) (.ok ((Bool.rec (motive:=λ_=>AV) (v) (.Bj [v,.bool true]) (ok))) h) (Nat.beq t ast))
 |_,_=>.bad 105
def L9 (x:AV):Nat->H->OR:=AV.rec (motive_1:=λ_=>Nat->H->OR) (motive_2:=λ_=>PUnit) (λ_ _=>.bad 106) (λ_=>λ_ _=>.bad 106) (λ_ _=>λ_ _=>.bad 106) (λ_=>λ_ _=>.bad 106) (λ_ _=>.bad 106) (λ_ _=>λ_ _=>.bad 106) (λ_ _=>.bad 106) (λ_ _ _ _ _ _=>λ_ _=>.bad 106) (λ_ _=>.bad 106) (λ_=>λ_ _=>.bad 106) (λ_ _ _ _ _=>λ_ _=>.bad 106) (λ_ _=>.bad 106) (λ_ _ _=>λ_ _=>.bad 106) (λ_ _=>.bad 106) (λ_ _=>λ_ _=>.bad 106) (λvs _=>λi h=>Py (AcE vs i) h) PUnit.unit (λ_ _ _ _=>PUnit.unit) x
def Yi (x:Operand) (i:Nat):V2:=λ_ _ _ f h=>L9 (ev x f) i h
def Bg (P:Program) (f:FuncId):Bool:=match P.funcs[f]? with|some fn=>!(fn.name == "runtime.NumGoroutine")&&fn.body.isSome|none=>false
def Ls (P:Program) (t:TypeId) (name:String):Option FuncId:=
 match P.info? t with
 |some i=>match i.methods.find? (·.name == name) with
  |some m=>match m.path.isEmpty,m.func,P.underlying t with
   |true,some (f,true),some (.pointer _)=>some f
   |true,some (_,false),some (.pointer _)=>none
   |true,some (f,false),some _=>some f
   |_,_,_=>none
  |none=>none
 |none=>none
def Jk:String:=match Extern.AbiNoEscape.rows with|p::_=>p.1|[] => ""
def Mk:String:=match Extern.BytealgIndexByte.rows with|_::p::_=>p.1|_ => ""
def Uk (P:Program) (f:FuncId):Nat:=match P.funcs[f]? with
 |some fn=>if fn.body.isSome then 0 else if fn.origin = "" then (if fn.name=Jk then 1 else if fn.name=Mk then 2 else 0) else 0
 |none=>0
def Ak9 (c:Nat):List Nat->Nat->Int
 |[],_=>.negSucc 0
 |a::l,i=>(Bool.rec (motive:=λ_=>Int) (Ak9 c l (Nat.succ i)) (.ofNat i) (Nat.beq a c))
def AgK (k:Nat) (args:List AV) (h:H):OR:=
 match k,args with
 |1,[x]=>.ok x h
 |2,[s,c]=>(match vS s,Xf c with|.yes s,some n=>.ok (.int .i64 (Ak9 n s 0)) h|_,_=>.bad 107)
 |_,_=>.bad 108
def Aeg (P:Program) (ctx:Ac) (f:FuncId) (args:List AV) (h:H):OR:=(Bool.rec (motive:=λ_=>OR) (AgK (Uk P f) args h) (ctx.call f args h) (Bg P f))
def Hn (P:Program) (ctx:Ac) (recv:AV) (name:String) (args:List AV) (h:H):OR:=
 match vIf recv with
 |.yes t v=>match Ls P t name with|some f=>Aeg P ctx f (v::args) h|none=>.bad 109
 |_=>.bad 110
def M6 (P:Program) (ctx:Ac) (fn:Fn) (cap args:List AV) (h:H):OR:=
 match fn with
 |.func f=>Aeg P ctx f (J0 args cap) h
 |.method name=>match args with|r::rest=>Hn P ctx r name rest h|[]=>.bad 111
 |.yield l=>ctx.round l args h
 |_=>.bad 112
def Hd (h:H) (s:Nat) (x:AV):Option (Nat × List AV):=
 match vL x with
 |.nil=>some (0,[])
 |.yes b off len _ _ _=>match h.rd b with|some c=>(Nf c off (len * s)).map λl=>(len,l)|none=>none
 |.no=>match vS x with|.yes t=>(Bool.rec (motive:=λ_=>Option (Nat × List AV)) (none) (some (Y2 t,U2 t)) (Nat.beq s 1))|.no=>none
def grow (h:H) (e:TypeId) (s:Nat) (cs:List AV) (Nh:Nat):OR:=
 .ok (.sl (Nat.succ h.nx) 0 Nh Nh s false) ((h.new (.Fb 0)).new (.cells cs e (.Gt h.nx)))
def Sf (i:SI) (b off len Nh:Nat) (new:List AV) (h:H):OR:=
 match h.rd b with
 |some c=>match Nf c off (len * i.s) with|some Cf=>grow h i.e i.s (J0 Cf new) Nh|none=>.bad 113
 |none=>.bad 114
def Ny (i:SI) (b off len Nh:Nat) (new:List AV) (h:H):OR:=
 match h.m.get b with
 |.cells c e' (.Gt k)=>match Aj3 (h.m.get k),Nf c off (len * i.s) with
  |some st,some _=>(Bool.rec (motive:=λ_=>OR) (.bad 117) ((Bool.rec (motive:=λ_=>OR) (.bad 116) ((Bool.rec (motive:=λ_=>OR) (.bad 115) (.ok (.sl h.nx off Nh Nh i.s false) (((h.put b (.cells c e' (.Cf k st))).put k (.Fb st)).new (.cells (J0 c new) e' (.Gt k)))) (Nat.beq off 0))) (Nat.beq i.e e'))) (Nat.beq (Q4 c) (off+len * i.s)))
  |_,_=>.bad 118
 |_=>.bad 119
def AgN (b off len cap Nh:Nat) (sz:Nat) (ex:Bool) (new:List AV) (h:H):OR:=
 List.rec (motive:=λ_=>OR) (.ok (.sl b off Nh cap sz ex) h) (λ_ _ _=>RH.rec (motive:=λ_=>OR) .bad (λh'=>.ok (.sl b off Nh cap sz ex) h') (h.wr b (off+len * sz) new)) new
def Lg (i:SI) (b off len cap sz:Nat) (ex:Bool) (n:Nat) (new:List AV) (h:H):OR:=
 (Bool.rec (motive:=λ_=>OR) ((Bool.rec (motive:=λ_=>OR) (Ny i b off len (Nat.add len n) new h) (Sf i b off len (Nat.add len n) new h) (ex))) (AgN b off len cap (Nat.add len n) sz ex new h) (Nat.ble (Nat.add len n) cap))
def Xa (P:Program) (st:TypeId) (s x:AV) (h:H):OR:=
 match Tw P st with
 |some i=>match Hd h i.s x with
  |some (n,new)=>match vL s with
   |.nil=>(Bool.rec (motive:=λ_=>OR) ((Bool.rec (motive:=λ_=>OR) (.bad 120) ((Bool.rec (motive:=λ_=>OR) (.bad 120) (grow h i.e i.s new n) (Bm new))) (Gj (n * (i.bytes+1))))) (.ok .Bv h) (Nat.beq n 0))
   |.yes b off len cap sz ex=>(Bool.rec (motive:=λ_=>OR) (.bad 121) ((Bool.rec (motive:=λ_=>OR) (.bad 121) ((Bool.rec (motive:=λ_=>OR) (.bad 121) (Lg i b off len cap sz ex n new h) (Nat.beq sz i.s))) (Bm new))) (Gj ((len+n) * (i.bytes+1))))
   |.no=>.bad 122
  |none=>.bad 123
 |none=>.bad 124
inductive LK where|bad|str|sl|map
def Pw (P:Program) (t:TypeId):LK:=
 match P.underlying t with
 |some .string=>.str
 |some (.slice _)=>.sl
 |some (.map _ _)=>.map
 |_=>.bad
def lnS (x:AV):H->OR:=AV.rec (motive_1:=λ_=>H->OR) (motive_2:=λ_=>PUnit) (λ_=>.bad 125) (λ_=>λ_=>.bad 125) (λ_ _=>λ_=>.bad 125) (λs=>λh=>.ok (.int .i64 (.ofNat (Y2 s))) h) (λ_=>.bad 125) (λ_ _=>λ_=>.bad 125) (λ_=>.bad 125) (λ_ _ _ _ _ _=>λ_=>.bad 125) (λ_=>.bad 125) (λ_=>λ_=>.bad 125) (λ_ _ _ _ _=>λ_=>.bad 125) (λ_=>.bad 125) (λ_ _ _=>λ_=>.bad 125) (λ_=>.bad 125) (λ_ _=>λ_=>.bad 125) (λ_ _=>λ_=>.bad 125) PUnit.unit (λ_ _ _ _=>PUnit.unit) x
def Fo (x:AV):H->OR:=AV.rec (motive_1:=λ_=>H->OR) (motive_2:=λ_=>PUnit) (λ_=>.bad 126) (λ_=>λ_=>.bad 126) (λ_ _=>λ_=>.bad 126) (λ_=>λ_=>.bad 126) (λ_=>.bad 126) (λ_ _=>λ_=>.bad 126) (λh=>.ok (.int .i64 (.ofNat 0)) h) (λ_ _ l _ _ _=>λh=>.ok (.int .i64 (.ofNat l)) h) (λ_=>.bad 126) (λ_=>λ_=>.bad 126) (λ_ _ _ _ _=>λ_=>.bad 126) (λ_=>.bad 126) (λ_ _ _=>λ_=>.bad 126) (λ_=>.bad 126) (λ_ _=>λ_=>.bad 126) (λ_ _=>λ_=>.bad 126) PUnit.unit (λ_ _ _ _=>PUnit.unit) x
def lnM (x:AV) (h:H):OR:=match entries x h with|some es=>.ok (.int .i64 (.ofNat es.length)) h|none=>.bad 127
def lnK (k:LK):AV->H->OR:=LK.rec (motive:=λ_=>AV->H->OR) (λ_ _=>.bad 128) lnS Fo lnM k
def AfO (lt:Bool):IntKind->Int->List AV->Option (IntKind × Int)
 |k,a,[]=>some (k,a)
 |k,a,y::rest=>match vI y with|.yes _ b=>AfO lt k ((Bool.rec (motive:=λ_=>Int) (a) (b) ((Bool.rec (motive:=λ_=>Bool) (ilt a b) (ilt b a) (lt))))) rest|.no=>none
def mm (lt:Bool) (l:List AV) (h:H):OR:=
 match l with
 |x::rest=>match vI x with|.yes k n=>(match AfO lt k n rest with|some (k,n)=>.ok (.int k n) h|none=>.bad 129)|.no=>.bad 130
 |[]=>.bad 131
def Ahh (P:Program) (dt:TypeId) (d x:AV) (h:H):OR:=
 match Tw P dt with
 |some i=>match Hd h i.s x with
  |some (n,src)=>match vL d with
   |.nil=>.ok (.int .i64 (.ofNat 0)) h
   |.yes b off len _ sz _=>
    match AeG (Nat.min n len * i.s) src with
    |some cs=>(Bool.rec (motive:=λ_=>OR) (.bad 132) (RH.rec (motive:=λ_=>OR) .bad (λh'=>.ok (.int .i64 (.ofNat (Nat.min n len))) h') (h.wr b off cs)) (Bool.rec (motive:=λ_=>Bool) false (Bm cs) (Nat.blt 0 sz)))
    |none=>.bad 133
   |.no=>.bad 134
  |none=>.bad 135
 |none=>.bad 136
def Ath (x:AV) (h:H):OR:=match vL x with|.nil=>.ok (.int .i64 (.ofNat 0)) h|.yes _ _ _ c _ true=>.ok (.int .i64 (.ofNat c)) h|_=>.bad 137
def sdV (x:AV) (h:H):OR:=match vL x with|.nil=>.ok .Ob h|.yes b off _ c _ _=>(Bool.rec (motive:=λ_=>OR) (.ok (.ptr b off) h) (.bad 138) (Nat.beq c 0))|.no=>.bad 139
def usV (P:Program) (t:TypeId) (p n:AV) (h:H):OR:=
 match vP p,Arm n with
 |.nil,some 0=>.ok (.str []) h
 |.yes _ _,some 0=>.ok (.str []) h
 |.yes b off,some n=>(match h.m.get b,P.underlying t with
  |.cells c e (.Gt k),some (.pointer e')=>(match P.underlying e,F7 P e,Nf c off n,Aj3 (h.m.get k) with
   |some (.int .u8),some 1,some cs,some st=>(match Yj cs with
    |some s=>(Bool.rec (motive:=λ_=>OR) (.bad 140) ((Bool.rec (motive:=λ_=>OR) (.bad 140) ((Bool.rec (motive:=λ_=>OR) (.bad 140) (.ok (.str s) ((h.put b (.cells c e (.fz k))).put k (.Fb st))) (Gj n))) (Nat.beq off 0))) (Nat.beq e e'))
    |none=>.bad 141)
   |_,_,_,_=>.bad 142)
  |_,_=>.bad 143)
 |_,_=>.bad 144
def Aab (P:Program) (t:TypeId):Bool:=match P.underlying t with|some (.int _)|none=>false|some _=>true
def J8 (b:Builtin) (ts:List TypeId) (args:List AV) (P:Program) (h:H):OR:=
 match b with
 |.append=>match ts,args with|t::t2::_,[s,x]=>(Bool.rec (motive:=λ_=>OR) (.bad 145) (Xa P t s x h) (Aab P t2))|_,_=>.bad 145
 |.len=>match ts,args with|t::_,[x]=>lnK (Pw P t) x h|_,_=>.bad 146
 |.copy=>match ts,args with|t::_,[d,s]=>Ahh P t d s h|_,_=>.bad 147
 |.min=>mm true args h
 |.max=>mm false args h
 |.cap=>match ts,args with|t::_,[x]=>(match Pw P t with|.sl=>Ath x h|_=>.bad 148)|_,_=>.bad 148
 |.unsafeSliceData=>match args with|[x]=>sdV x h|_=>.bad 149
 |.unsafeString=>match ts,args with|[t,_],[p,n]=>usV P t p n h|_,_=>.bad 150
 |_=>.bad 151
def cvV (x:AV):List AV->Program->Ac->H->OR:=AV.rec (motive_1:=λ_=>List AV->Program->Ac->H->OR) (motive_2:=λ_=>PUnit) (λ_ _ _ _=>.bad 152) (λ_=>λ_ _ _ _=>.bad 152) (λ_ _=>λ_ _ _ _=>.bad 152) (λ_=>λ_ _ _ _=>.bad 152) (λ_ _ _ _=>.bad 152) (λ_ _=>λ_ _ _ _=>.bad 152) (λ_ _ _ _=>.bad 152) (λ_ _ _ _ _ _=>λ_ _ _ _=>.bad 152) (λ_ _ _ _=>.bad 152) (λ_=>λ_ _ _ _=>.bad 152) (λf a c _ _=>λargs P ctx h=>M6 P ctx f c (J0 a args) h) (λ_ _ _ _=>.bad 152) (λ_ _ _=>λ_ _ _ _=>.bad 152) (λ_ _ _ _=>.bad 152) (λ_ _=>λ_ _ _ _=>.bad 152) (λ_ _=>λ_ _ _ _=>.bad 152) PUnit.unit (λ_ _ _ _=>PUnit.unit) x
abbrev CeT:=List Operand->List TypeId->Program->Ac->L2->H->OR
def A2L (g:Operand):CeT:=λargs _ P ctx f h=>cvV (ev g f) (W1 args f) P ctx h
def A2K (r:Operand) (name:String):CeT:=λargs _ P ctx f h=>Hn P ctx (ev r f) name (W1 args f) h
def Br:Nat:=255
def AnS (x:VA) (h:H):OR:=match x with|.yes _=>.ok .B3 h|.no=>.bad 153
def Aa5 (b:Builtin):CeT:=match b with
 |.recover=>λ_ _ _ _ f h=>AnS (vT (f.get Br)) h
 |b=>λargs ts P _ f h=>J8 b ts (W1 args f) P h
def ceD (c:Callee):CeT:=Callee.rec (motive:=λ_=>CeT) A2L A2K Aa5 c
def A4S (c:Call):V2:=λ_ P ctx f h=>ceD c.callee c.args.toList c.argTypes.toList P ctx f h
def Yh (n:Nat):V2:=λ_ _ _ _ _=>.bad n
def Aga (x:AV) (h:H):OR:=match vIf x with|.yes _ _=>.Hb x h|_=>.bad 171
def Az2 (x:Operand):V2:=λ_ _ _ f h=>Aga (ev x f) h
def opD (o:Op):V2:=Op.rec (motive:=λ_=>V2)
 Awr Awr A4U Az1 A9R Tg Gz E6 A4T Az3 (λ_=>Yh 160) (λ_=>Yh 161) Uu AfX AaP Ml (λ_ _=>Yh 162)
 Rb Jt Aii (λ_ _=>Yh 163) H5 Aac Q9 Ti Ra Tj Pe E6 (λ_ _ _=>Yh 164) (λ_ _ _ _=>Yh 165)
 (λ_ _=>Yh 166) (λ_ _=>Yh 167) (λ_=>Yh 168) G0 Yi A4S (λ_=>Yh 169) (λ_=>Yh 170) Az2 (λ_ _=>Yh 172) (λ_ _ _=>Yh 173) (λ_ _=>Yh 174) o
inductive RC where
 |bad (why:Nat)
 |Bt (f:L2) (h:H)
 |ext (id:Nat) (f:L2) (h:H)
 |ret (f:L2) (h:H)
inductive GS where
 |always
 |on (t:Nat) (want:Bool)
 |bad
def guardOf (ops:Array Oper) (o:Oper):GS:=
 match o.guard with
 |none=>.always
 |some (j,want)=>match (ops[j]?).bind (·.dst) with
  |some t=>.on t want
  |none=>.bad
def Im (d:Option Tmp) (v:AV) (f:L2):L2:=Option.rec (motive:=λ_=>L2) f (λt=>f.set t v) d
inductive WT where|yes|no|bad
def Adq (x:AV):Bool->WT:=AV.rec (motive_1:=λ_=>Bool->WT) (motive_2:=λ_=>PUnit) (λ_=>WT.bad) (λb=>λw=>(Bool.rec (motive:=λ_=>WT) (WT.no) (WT.yes) (Aju b w))) (λ_ _=>λ_=>WT.no) (λ_=>λ_=>WT.no) (λ_=>WT.no) (λ_ _=>λ_=>WT.no) (λ_=>WT.no) (λ_ _ _ _ _ _=>λ_=>WT.no) (λ_=>WT.no) (λ_=>λ_=>WT.no) (λ_ _ _ _ _=>λ_=>WT.no) (λ_=>WT.no) (λ_ _ _=>λ_=>WT.no) (λ_=>WT.no) (λ_ _=>λ_=>WT.no) (λ_ _=>λ_=>WT.no) PUnit.unit (λ_ _ _ _=>PUnit.unit) x
def Em:Nat:=1000000007
def Jv:Nat:=254
def AcX (o:Op):Bool:=match o with|.panic _=>true|.call c=>(match c.callee with|.builtin _=>false|_=>true)|_=>false
def Akx (d:Option Tmp) (f:L2) (h0:H) (o:Op) (r:OR):RC:=OR.rec (motive:=λ_=>RC) RC.bad (λv h=>RC.Bt (Im d v f) h) (λv h=>(Bool.rec (motive:=λ_=>RC) (.bad 208) ((Bool.rec (motive:=λ_=>RC) (.bad 208) (RC.ext Em (f.set Jv v) h) (Nat.ble h0.nx h.nx))) (AcX o))) r
abbrev ReT:=Option Tmp->TypeId->Program->Ac->L2->H->RC
def Ace (d:Option Tmp) (fn:VF) (ds:VA) (args:List AV) (f:L2) (h:H):RC:=
 match fn,ds with
 |.yes (.func k) a cap,.yes ds=>.Bt (Im d (.Bj []) (f.set Br (.Bj (.fn (.func k) (J0 a args) cap::ds)))) h
 |_,_=>.bad 180
def Th (c:Call):ReT:=λd _ _ _ f h=>
 match c.callee with
 |.value g=>Ace d (vF (ev g f)) (vT (f.get Br)) (W1 c.args.toList f) f h
 |_=>.bad 181
def Ie (o:Op):Option Call:=Op.rec (motive:=λ_=>Option Call)
 (λ_=>none) (λ_=>none) (λ_ _ _=>none) (λ_=>none) (λ_ _=>none) (λ_ _=>none) (λ_ _ _=>none) (λ_ _ _ _=>none) (λ_ _=>none) (λ_ _ _=>none) (λ_=>none) (λ_=>none) (λ_=>none) (λ_ _ _ _ _=>none) (λ_ _ _=>none) (λ_ _ _=>none) (λ_ _=>none)
 (λ_ _=>none) (λ_ _ _=>none) (λ_ _=>none) (λ_ _=>none) (λ_ _ _=>none) (λ_ _ _ _ _=>none) (λ_ _ _=>none) (λ_ _ _=>none) (λ_ _ _=>none) (λ_ _ _=>none) (λ_ _ _ _=>none) (λ_ _ _ _=>none) (λ_ _ _=>none) (λ_ _ _ _=>none)
 (λ_ _=>none) (λ_ _=>none) (λ_=>none) (λ_ _ _ _=>none) (λ_ _=>none) (λ_=>none) (λ_=>none) some (λ_=>none) (λ_ _=>none) (λ_ _ _=>none) (λ_ _=>none) o
def op1 (o:Oper):ReT:=Option.rec (motive:=λ_=>Op->ReT) (λop d t P ctx f h=>Akx d f h op (opD op t P ctx f h)) (λc _=>Th c) (Ie o.op) o.op
abbrev RuT:=Oper->Program->Ac->L2->H->RC
def Ame:RuT:=λo P ctx f h=>op1 o o.dst o.type P ctx f h
def AzA:RuT:=λo _ _ f h=>.Bt (Im o.dst (.Bj []) f) h
def Avj:RuT:=λ_ _ _ _ _=>.bad 182
def Amo (w:WT):RuT:=WT.rec (motive:=λ_=>RuT) Ame AzA Avj w
def AjD (g:GS):RuT:=GS.rec (motive:=λ_=>RuT) Ame (λt want o P ctx f h=>Amo (Adq (f.get t) want) o P ctx f h) Avj g
def Fp (ops:Array Oper) (o:Oper):Program->Ac->L2->H->RC:=AjD (guardOf ops o) o
def andThen (k:L2->H->RC) (r:RC):RC:=RC.rec (motive:=λ_=>RC) RC.bad k RC.ext RC.ret r
def G3 (P:Program) (ctx:Ac) (ops:Array Oper) (l:List Oper):L2->H->RC:=
 List.rec (motive:=λ_=>L2->H->RC) RC.Bt (λo _ ih f h=>andThen ih (Fp ops o P ctx f h)) l
def Ka (n:Nat):Nat:=Nat.pow 2 n
def AbE (l:List Operand):Nat:=List.rec (motive:=λ_=>Nat) 0 (λx _ ih=>Nat.lor (Operand.rec (motive:=λ_=>Nat) Ka (λ_=>0) (λ_=>0) (λ_=>0) x) ih) l
def I4 (o:Oper):Nat:=match o.dst with|some d=>Ka d|none=>0
def Iz (ops:Array Oper) (o:Oper):Nat:=Nat.lor (AbE o.op.operands.toList) (match guardOf ops o with|.on t _=>Ka t|_=>0)
def Vf (l:List Nat) (n:Nat):Nat:=(l[n]?).getD 0
def Ez (acc:List Nat):List Edge->Nat
 |[]=>0
 |e::es=>(Bool.rec (motive:=λ_=>Nat) (Ez acc es) (Nat.lor (Nat.lor (Ka e.on) (Vf acc e.on)) (Ez acc es)) (Region.binds .any e))
def M4 (n:Nat):Bool:=Nat.beq n 0
structure OB where
 bit:Nat
 dst:Nat
 rd:Nat
 df:Bool
def Zk (pr dst rd:Nat) (df:Bool):List OB->Bool
 |[]=>true
 |a::l=>(Bool.rec (motive:=λ_=>Bool) (false) (Zk pr dst rd df l) ((Bool.rec (motive:=λ_=>Bool) (true) ((Bool.rec (motive:=λ_=>Bool) (false) (Ib (Bool.rec (motive:=λ_=>Bool) df true a.df)) (M4 (Nat.lor (Nat.land a.dst (Nat.lor dst rd)) (Nat.land dst a.rd))))) (M4 (Nat.land pr a.bit)))))
def AhJ (o:Op):Bool:=match Ie o with|some _=>true|none=>false
def Aiv (ops:Array Oper):List Oper->Nat->List Nat->List OB->Bool
 |[],_,_,_=>true
 |o::os,i,acc,obs=>
  (Bool.rec (motive:=λ_=>Bool) (false) (Aiv ops os (Nat.succ i) (acc++[Ez acc o.after.toList]) (⟨Ka i,I4 o,Iz ops o,AhJ o.op⟩::obs)) ((Bool.rec (motive:=λ_=>Bool) (false) (Zk (Ez acc o.after.toList) (I4 o) (Iz ops o) (AhJ o.op) obs) (o.after.toList.all λe=>Ib (Region.binds .any e)||Nat.blt e.on i))))
def Yx (ops:Array Oper):Bool:=Aiv ops ops.toList 0 [] []
inductive RS where|none|blk (b:Nat)|all
def Bn (x:AV):RS:=match vP x with|.yes b _=>.blk b|_=>.none
def Gi (o:Op) (f:L2):RS:=
 match o with
 |.load _ a=>Bn (ev a f)
 |.move _|.assign _|.pick ..|.alloc _|.box ..|.build ..|.buildSlice ..|.nilCheck _|.binOp ..|.unOp ..|.makeInterface ..|.makeFunc ..|.fieldAddr ..|.field ..|.indexAddr ..|.index ..|.typeAssert ..|.extract ..|.slice ..=>.none
 |.call { callee:=.builtin .len,argTypes:=_,args:=#[x] }=>match ev x f with|.map _=>.all|_=>.none
 |_=>.all
def wrote (n:Nat) (l:List Nat):List Nat:=List.rec (motive:=λ_=>List Nat) [] (λb _ ih=>(Bool.rec (motive:=λ_=>List Nat) (ih) (b::ih) (Nat.blt b n))) l
structure EF where
 bit:Nat
 pr:Nat
 w:List Nat
 r:RS
 h:H
 n1:Nat
def Q6 (l:List Nat):Bool:=List.rec (motive:=λ_=>Bool) true (λ_ _ _=>false) l
def Ve (b:Nat) (l:List Nat):Bool:=List.rec (motive:=λ_=>Bool) false (λx _ ih=>Bool.rec (motive:=λ_=>Bool) ih true (Nat.beq x b)) l
def B5 (o:AO):Option Nat:=match o with|.cells _ _ (.Gt k)|.cells _ _ (.Cf k _)|.cells _ _ (.fz k)=>some k|_=>none
def AbY (w:List Nat) (k:Option Nat):Bool:=Option.rec (motive:=λ_=>Bool) true (λk=>Ib (Ve k w)) k
def clear (r:RS):List Nat->H->Bool:=RS.rec (motive:=λ_=>List Nat->H->Bool) (λ_ _=>true)
 (λb w h=>(Bool.rec (motive:=λ_=>Bool) (AbY w (B5 (h.m.get b))) (false) (Ve b w))) (λ_ _=>false) r
def Ahl (a b:List Nat):Bool:=List.rec (motive:=λ_=>Bool) true (λx _ ih=>(Bool.rec (motive:=λ_=>Bool) (ih) (false) (Ve x b))) a
def outside (w:List Nat) (lo hi:Nat):Bool:=List.rec (motive:=λ_=>Bool) true (λx _ ih=>(Bool.rec (motive:=λ_=>Bool) (ih) (false) ((Bool.rec (motive:=λ_=>Bool) (false) (Nat.blt x hi) (Nat.ble lo x))))) w
def Jo (e a:EF):Bool:=
 (Bool.rec (motive:=λ_=>Bool) (true) ((Bool.rec (motive:=λ_=>Bool) ((Bool.rec (motive:=λ_=>Bool) (false) ((Bool.rec (motive:=λ_=>Bool) (false) (outside e.w a.h.nx a.n1) (clear a.r e.w a.h))) (Ahl e.w a.w))) (true) (Nat.beq e.bit a.bit))) (M4 (Nat.lor (Nat.land e.pr a.bit) (Nat.land a.pr e.bit))))
def E2 (e:EF) (l:List EF):Bool:=List.rec (motive:=λ_=>Bool) true (λa _ ih=>(Bool.rec (motive:=λ_=>Bool) (false) (ih) (Jo e a))) l
def Iu (all l:List EF):Bool:=List.rec (motive:=λ_=>Bool) true (λe _ ih=>(Bool.rec (motive:=λ_=>Bool) ((Bool.rec (motive:=λ_=>Bool) (false) (ih) (E2 e all))) (ih) (Q6 e.w))) l
def Lh (l:List EF):Bool:=Iu l l
def Ab (h:H):H:=⟨h.m,h.nx,[]⟩
def Be (lg:List Nat) (h:H):H:=⟨h.m,h.nx,lg⟩
def Akm (x y:List Nat):List Nat:=List.rec (motive:=λ_=>List Nat) y (λa _ ih=>a::ih) x
def En (l:List EF) (lg:List Nat):List Nat:=List.rec (motive:=λ_=>List Nat) lg (λe _ ih=>Akm e.w ih) l
def Acf (lg:List Nat) (Fl:List EF) (f:L2) (h:H):RC:=(Bool.rec (motive:=λ_=>RC) (.bad 183) (.Bt f (Be (En Fl lg) h)) (Lh Fl))
structure DO where
 o:Oper
 bit:Nat
 pr:Nat
def M7:List Oper->Nat->List Nat->List DO
 |[],_,_=>[]
 |o::os,i,acc=>⟨o,Ka i,Ez acc o.after.toList⟩::M7 os (Nat.succ i) (acc++[Ez acc o.after.toList])
def Sp (P:Program) (ctx:Ac) (ops:Array Oper) (lg:List Nat) (l:List DO):List EF->L2->H->RC:=
 List.rec (motive:=λ_=>List EF->L2->H->RC) (Acf lg)
  (λo _ ih Fl f h=>RC.rec (motive:=λ_=>RC) RC.bad (λf' h'=>ih (⟨o.bit,o.pr,wrote h.nx h'.lg,Gi o.o.op f,h,h'.nx⟩::Fl) f' h') (λ_ _ _=>.bad 184) (λ_ _=>.bad 184) (Fp ops o.o P ctx f (Ab h))) l
def AnB (ops:Array Oper):Bool:=ops.toList.all λo=>Ib (AhJ o.op)
def Gk (P:Program) (ctx:Ac) (ops:Array Oper) (f:L2) (h:H):RC:=(Bool.rec (motive:=λ_=>RC) (.bad 185) (Sp P ctx ops h.lg (M7 ops.toList 0 []) [] f h) (AnB ops))
abbrev Fw:=Program->Ac->L2->H->RC
def Av8:Fw:=λ_ _ f h=>.Bt f h
def Atf (_:Nat) (ops:Array Oper) (draw:Bool):Fw:=Bool.rec (motive:=λ_=>Array Oper->Fw) (λops P ctx f h=>G3 P ctx ops ops.toList f h) (λops P ctx f h=>Gk P ctx ops f h) draw ops
def A7z (_ _:Code) (a b:Fw):Fw:=λP ctx f h=>andThen (b P ctx) (a P ctx f h)
def Al2 (x:AV):Fw->Fw->Fw:=AV.rec (motive_1:=λ_=>Fw->Fw->Fw) (motive_2:=λ_=>PUnit) (λ_ _ _ _ _ _=>.bad 186) (λb=>Bool.rec (motive:=λ_=>Fw->Fw->Fw) (λ_ y=>y) (λx _=>x) b) (λ_ _=>λ_ _ _ _ _ _=>.bad 186) (λ_=>λ_ _ _ _ _ _=>.bad 186) (λ_ _ _ _ _ _=>.bad 186) (λ_ _=>λ_ _ _ _ _ _=>.bad 186) (λ_ _ _ _ _ _=>.bad 186) (λ_ _ _ _ _ _=>λ_ _ _ _ _ _=>.bad 186) (λ_ _ _ _ _ _=>.bad 186) (λ_=>λ_ _ _ _ _ _=>.bad 186) (λ_ _ _ _ _=>λ_ _ _ _ _ _=>.bad 186) (λ_ _ _ _ _ _=>.bad 186) (λ_ _ _=>λ_ _ _ _ _ _=>.bad 186) (λ_ _ _ _ _ _=>.bad 186) (λ_ _=>λ_ _ _ _ _ _=>.bad 186) (λ_ _=>λ_ _ _ _ _ _=>.bad 186) PUnit.unit (λ_ _ _ _=>PUnit.unit) x
def A2I (c:Operand) (_ _:Code) (a b:Fw):Fw:=λP ctx f h=>Al2 (ev c f) a b P ctx f h
def inBlock (id:Nat) (r:RC):RC:=RC.rec (motive:=λ_=>RC) RC.bad RC.Bt (λi f h=>(Bool.rec (motive:=λ_=>RC) (RC.ext i f h) (RC.Bt f h) (Nat.beq i id))) RC.ret r
def AxD (id:Nat) (_:Code) (a:Fw):Fw:=λP ctx f h=>inBlock id (a P ctx f h)
def Yd (b:Fw) (P:Program) (ctx:Ac) (k:Nat):L2->H->RC:=
 Nat.rec (motive:=λ_=>L2->H->RC) (b P ctx) (λ_ ih f h=>andThen ih (ih f h)) k
def A2J (_:Code) (a:Fw):Fw:=λP ctx f h=>andThen (λ_ _=>.bad 187) (Yd a P ctx 20 f h)
def Z4 (j:Option Code) (f:L2) (h:H):RC:=
 match j with
 |none=>.Bt f h
 |some .ret=>.ret f h
 |some (.exit id)=>(Bool.rec (motive:=λ_=>RC) (.ext id f h) (.bad 209) (Nat.beq id Em))
 |_=>.bad 188
def Mn (f:L2) (l:Nat) (r:OR):RC:=
 match r with
 |.ok _ h=>match h.m.get l with
  |.loop st Lw fr ps as bd=>(Bool.rec (motive:=λ_=>RC) (Z4 Lw f (h.put l (.loop 3 Lw fr ps as bd))) (.bad 189) (Nat.beq st 1))
  |_=>.bad 190
 |.bad n=>.bad n
 |.Hb _ _=>.bad 210
def Yu (P:Program) (ctx:Ac) (g:FuncId) (a cap:List AV) (ps:List Nat) (assign body:Code) (fr f:L2) (h:H):RC:=
 (Bool.rec (motive:=λ_=>RC) (.bad 191) (Mn f h.nx (ctx.call g (J0 (J0 a [.fn (.yield h.nx) [] []]) cap) (h.new (.loop 0 none fr ps assign body)))) (Bg P g))
def AqS (o:AO):Bool:=match o with|.loop ..=>true|_=>false
def inRound (d:AV) (h:H):Bool:=match vM d with|.yes l=>AqS (h.m.get l)|_=>false
def AbV (x:Operand) (params:Array Tmp) (assign body:Code) (_ _:Fw):Fw:=λP ctx f h=>
 match vF (ev x f),vT (f.get Br) with
 |.yes (.func g) a cap,.yes ds=>Yu P ctx g a cap params.toList assign body f (f.set Br (.Bj (.map h.nx::ds))) (h.new (.dfr false))
 |.yes (.func g) a cap,.no=>(match inRound (f.get Br) h with|true=>Yu P ctx g a cap params.toList assign body f f h|false=>.bad 192)
 |_,_=>.bad 192
def exec (c:Code):Fw:=Code.rec (motive:=λ_=>Fw) Av8 Atf A7z A2I AxD A2J AbV (λid _ _ f h=>.ext id f h) (λ_ a=>a)
 (λ_=>Av8) (λ_ _ _ _ _=>.bad 193) (λ_ _ f h=>.ret f h) (λ_ _ _ _ _=>.bad 194) c
def Eu (l:List AV):Nat->L2->L2:=List.rec (motive:=λ_=>Nat->L2->L2) (λ_ f=>f) (λa _ ih n f=>ih (Nat.succ n) (f.set n a)) l
def AyY (i:Option (Option Nat)) (x:AV) (h:H):Option AV:=
 match vP x with
 |.yes b off=>(match h.rd b with|some c=>Tn i c off|none=>none)
 |_=>none
def Oe (P:Program) (f:L2) (h:H):List ResultVar->Option (List AV)
 |[]=>some []
 |.tmp t::rs=>match Oe P f h rs with|some l=>some (f.get t::l)|none=>none
 |.cell a t::rs=>match AyY (Ft P t) (f.get a) h,Oe P f h rs with|some v,some l=>some (v::l)|_,_=>none
def single (l:List AV):AV:=match l with|[v]=>v|vs=>.Bj vs
def D3 (P:Program) (ctx:Ac):List AV->H->RH
 |[],h=>.ok h
 |d::ds,h=>match vF d,vM d with
  |.yes (.func g) a cap,_=>(Bool.rec (motive:=λ_=>RH) (.bad 195) ((match ctx.call g (J0 a cap) h with|.ok _ h'=>D3 P ctx ds h'|.bad n=>.bad n|.Hb _ _=>.bad 211)) (Bg P g))
  |_,.yes r=>(match h.m.get r with|.dfr false=>D3 P ctx ds (h.put r (.dfr true))|_=>.bad 194)
  |_,_=>.bad 196
def Gg (P:Program) (rs:List ResultVar) (f:L2) (h:H):OR:=match Oe P f h rs with|some l=>.ok (single l) h|none=>.bad 197
def finish (P:Program) (ctx:Ac) (rs:List ResultVar) (f:L2) (h:H):OR:=
 match vT (f.get Br) with
 |.yes ds=>RH.rec (motive:=λ_=>OR) .bad (λh'=>Gg P rs f h') (D3 P ctx ds h)
 |.no=>.bad 198
structure FI where
 body:Code
 nt:Nat
 rs:List ResultVar
def Es (G:Nat) (x:Operand):Bool:=Operand.rec (motive:=λ_=>Bool) (λt=>Nat.blt t 250) (λ_=>true) (λg=>Nat.blt g G) (λ_=>true) x
def Gl (G nt:Nat) (o:Oper):Bool:=(Bool.rec (motive:=λ_=>Bool) (false) ((match o.dst with|some d=>Nat.blt d nt|none=>true)) (o.op.operands.toList.all (Es G)))
def codeOk (G nt:Nat) (c:Code):Bool:=Code.rec (motive:=λ_=>Bool) true (λ_ ops dr=>(Bool.rec (motive:=λ_=>Bool) (false) ((Bool.rec (motive:=λ_=>Bool) (true) (Yx ops) (dr))) (ops.toList.all (Gl G nt))))
 (λ_ _ a b=>(Bool.rec (motive:=λ_=>Bool) (false) (b) (a))) (λc _ _ a b=>(Bool.rec (motive:=λ_=>Bool) (false) ((Bool.rec (motive:=λ_=>Bool) (false) (b) (a))) (Es G c))) (λid _ a=>(Bool.rec (motive:=λ_=>Bool) (a) (false) (Nat.beq id Em))) (λ_ a=>a)
 (λx ps _ _ a b=>(Bool.rec (motive:=λ_=>Bool) (false) ((Bool.rec (motive:=λ_=>Bool) (false) ((Bool.rec (motive:=λ_=>Bool) (false) (b) (a))) (ps.toList.all (λd=>Nat.blt d nt)))) (Es G x))) (λid=>Ib (Nat.beq id Em)) (λ_ a=>a) (λ_=>true) (λ_=>true) true (λ_=>true) c
def Amd (r:ResultVar):Bool:=match r with|.tmp t=>Nat.blt t 250|.cell t _=>Nat.blt t 250
def A3c (G:Nat) (fn:Func):Bool:=match fn.body with|some c=>(Bool.rec (motive:=λ_=>Bool) (false) ((Bool.rec (motive:=λ_=>Bool) (false) (codeOk G fn.ntmps c) (fn.results.toList.all Amd))) (Nat.blt fn.ntmps 250))|none=>true
def Mv (P:Program):Bool:=P.funcs.toList.all (A3c P.globals.size)
def Ln (P:Program) (f:FuncId):Option FI:=
 match P.funcs[f]? with
 |some fn=>match fn.body with|some c=>some ⟨c,fn.ntmps,fn.results.toList⟩|none=>none
 |none=>none
def Agk (f:Nat) (r:OR):OR:=OR.rec (motive:=λ_=>OR) (λn=>.bad ((Bool.rec (motive:=λ_=>Nat) (n) (n+10000 * (f+1)) (Nat.blt n 1000)))) .ok .Hb r
def Az:L2:=L2.new.set Br (.Bj [])
def Amc (o:Oper):Option (Option Tmp):=match o.op,o.guard with
 |.call { callee:=.builtin .recover,.. },none=>some o.dst
 |_,_=>none
def AaT:Code->Option (Option Tmp)
 |.region _ ops false=>match ops.toList with|o::_=>Amc o|[]=>none
 |.seq a _=>AaT a
 |.scope a=>AaT a
 |.block _ a=>AaT a
 |_=>none
def Xn:Code->Fw
 |.region _ ops false=>λP ctx f h=>G3 P ctx ops (ops.toList.drop 1) f h
 |.seq a b=>λP ctx f h=>andThen (exec b P ctx) (Xn a P ctx f h)
 |.scope a=>Xn a
 |.block id a=>λP ctx f h=>inBlock id (Xn a P ctx f h)
 |_=>λ_ _ _ _=>.bad 212
def Aen (P:Program) (ctx:Ac) (g:FuncId) (args:List AV) (v:AV) (h:H):OR:=
 match Ln P g with
 |some i=>match AaT i.body with
  |some d=>(Bool.rec (motive:=λ_=>OR) (.bad 214) (RC.rec (motive:=λ_=>OR) OR.bad (finish P ctx i.rs) (λ_ _ _=>.bad 213) (finish P ctx i.rs) (Xn i.body P ctx (Im d v (Eu args 0 Az)) h)) (Nat.ble (Q4 args) i.nt))
  |none=>.bad 215
 |none=>.bad 216
def Yw (P:Program) (ctx:Ac) (rs:List ResultVar) (f:L2) (ds:List AV) (h:H) (r:OR):OR:=
 match r with
 |.ok _ h1=>(Bool.rec (motive:=λ_=>OR) (.bad 218) ((match D3 P ctx ds h1 with|.ok h2=>(Bool.rec (motive:=λ_=>OR) (.bad 217) (Gg P rs f h2) (Nat.ble h1.nx h2.nx))|.bad n=>.bad n)) (Nat.ble h.nx h1.nx))
 |.bad n=>.bad n
 |.Hb _ _=>.bad 219
def Xs (P:Program) (ctx:Ac) (rs:List ResultVar) (f:L2) (h:H):OR:=
 match vT (f.get Br) with
 |.yes []=>.Hb (f.get Jv) h
 |.yes (d::ds)=>(match vF d with
  |.yes (.func g) a cap=>(Bool.rec (motive:=λ_=>OR) (.bad 220) (Yw P ctx rs f ds h (Aen P ctx g (J0 a cap) (f.get Jv) h)) (Bg P g))
  |_=>.bad 221)
 |.no=>.bad 222
def M8 (P:Program) (ctx:Ac) (rs:List ResultVar) (id:Nat) (f:L2) (h:H):OR:=(Bool.rec (motive:=λ_=>OR) (.bad 199) (Xs P ctx rs f h) (Nat.beq id Em))
def Aby (P:Program) (ctx:Ac) (rs:List ResultVar) (r:RC):OR:=RC.rec (motive:=λ_=>OR) OR.bad (finish P ctx rs) (M8 P ctx rs) (finish P ctx rs) r
def AbW (P:Program) (ctx:Ac) (f:FuncId) (args:List AV) (h:H) (i:FI):OR:=
 (Bool.rec (motive:=λ_=>OR) (.bad 200) (Agk f (Aby P ctx i.rs (exec i.body P ctx (Eu args 0 Az) h))) (Nat.ble (Q4 args) i.nt))
def Fy (P:Program) (ctx:Ac) (f:FuncId) (args:List AV) (h:H):OR:=Option.rec (motive:=λ_=>OR) (.bad 201) (AbW P ctx f args h) (Ln P f)
def endRound (l:Nat) (jump:Option Code) (h:H):OR:=
 match h.m.get l with
 |.loop _ _ fr ps as bd=>.ok (.bool jump.isNone) (h.put l (.loop (match jump with|none=>0|some _=>2) jump fr ps as bd))
 |_=>.bad 202
def Agg (l:Nat) (r:RC):OR:=RC.rec (motive:=λ_=>OR) OR.bad (λ_ h=>endRound l none h) (λid _ h=>(Bool.rec (motive:=λ_=>OR) (endRound l (some (.exit id)) h) (.bad 223) (Nat.beq id Em))) (λ_ h=>endRound l (some .ret) h) r
def Uz:List Nat->List AV->L2->Option L2
 |[],[],f=>some f
 |t::ts,a::as,f=>Uz ts as (f.set t a)
 |_,_,_=>none
def Age (P:Program) (ctx:Ac) (l:Nat) (body:Code) (f:L2) (h:H):RC:=
 match h.m.get l with
 |.loop 0 Lw fr ps as bd=>exec body P ctx f (h.put l (.loop 1 Lw fr ps as bd))
 |_=>.bad 203
def Io (P:Program) (ctx:Ac) (l:Nat) (args:List AV) (h:H):OR:=
 match h.m.get l with
 |.loop _ _ fr ps as bd=>
  match Uz ps args (fr.set Br (.map l)) with
  |some f=>Agg l (andThen (Age P ctx l bd) (exec as P ctx f h))
  |none=>.bad 204
 |_=>.bad 205
def Q7:Ac:=⟨λ_ _ _=>.bad 206,λ_ _ _=>.bad 207⟩
def A2N (P:Program) (d:Nat):Ac:=Nat.rec (motive:=λ_=>Ac) Q7 (λ_ ih=>⟨Fy P ih,Io P ih⟩) d
end
end Go.Ev
namespace Go.Ev
theorem AhP l:∀n,AcD l n=if n<=l.length then some (l.drop n) else none:=by intro n;induction n with
 |zero=>rfl
 |succ n ih=>
  have:AcD l (n+1)=ltl (AcD l n):=rfl;rw [this,ih];by_cases h:n<=l.length;. rw [if_pos h];cases hd:l.drop n with
    |nil=>have hlen:=congrArg List.length hd;simp at hlen;rw [if_neg om];rfl
    |cons a t=>have hlen:=congrArg List.length hd;simp at hlen;rw [if_pos om,show l.drop _=t by rw [<- List.drop_drop,hd];rfl];rfl
  . rw [if_neg h,if_neg om];rfl
theorem Ab6 l:∀n,AcE l n=l[n]?:=by
 intro n;have:AcE l n=lhd _:=rfl;rw [this,AhP];by_cases h:n<=l.length
 . rw [if_pos h];have h0:(l.drop n)[0]?=l[n]?:=by simp
   rw [<- h0];cases l.drop n<;>rfl
 . rw [if_neg h,List.getElem?_eq_none om];rfl
theorem AhX:∀n l,AeG n l=if n<=l.length then some (l.take n) else none:=by intro n;induction n with
 |zero=>intro l;rfl
 |succ n ih=>intro l;cases l with
  |nil=>rfl
  |cons a l=>
   have:AeG (n+1) (a::l)=Option.rec _ _ (AeG n l):=rfl;rw [this,ih l];by_cases h:n<=l.length;. simp [h]
   simp [*]
theorem E5 l off n:Nf l off n=if off+n<=l.length then some ((l.drop off).take n) else none:=by
 have:Nf l off n=Option.rec (motive:=λ_=>Option _) _ ..:=rfl;rw [this,AhP];by_cases h:off<=l.length;. simp [h,if_true];rw [AhX];grind
 . simp [h,if_false];grind
theorem Js {l} {off n} {r} (h:Nf l off n=some r):off+n<=l.length/\r=(l.drop off).take n/\r.length=n:=by rw [E5] at h;grind
theorem AhT vs:∀l,AcF vs l=if vs.length<=l.length then some (vs++l.drop vs.length) else none:=by induction vs with
 |nil=>intro l;rfl
 |cons v vs ih=>intro l;cases l with
  |nil=>rfl
  |cons a l=>have:AcF (v::vs) (a::l)=Option.rec _ _ (AcF _ l):=rfl;rw [this,ih l];by_cases h:vs.length<=l.length<;>simp [h]
theorem Kh (vs:List AV) (l:List AV):∀off,Ng l vs off=if off+vs.length<=l.length then some (l.take off++vs++l.drop (off+vs.length)) else none:=by induction l with
 |nil=>intro off;cases off with
  |zero=>have:Ng [] vs 0=AcF vs []:=rfl;rw [this,AhT];simp
  |succ n=>have:Ng [] vs (n+1)=none:=rfl;grind
 |cons a l ih=>intro off;cases off with
  |zero=>have:Ng (a::l) vs 0=AcF vs (a::l):=rfl;rw [this,AhT];simp
  |succ n=>
   have:Ng (a::l) vs (n+1)=Option.rec _ _ (Ng l _ n):=rfl;rw [this,ih n];by_cases h:n+vs.length<=l.length
   . have h':n+1+vs.length<=(a::l).length:=by grind
     rw [if_pos h,if_pos h'];grind
   . have h':¬ n+1+vs.length<=(a::l).length:=by grind
     rw [if_neg h,if_neg h']
theorem Ns {l vs} {off} {r} (h:Ng l vs off=some r):
 off+vs.length<=l.length/\r=l.take off++vs++l.drop (off+vs.length):=by rw [Kh] at h;grind
theorem Mi {l vs} {off} {r} (h:Ng l vs off=some r):r.length=l.length:=by obtain ⟨h1,rfl⟩:=Ns h;grind
theorem AhU {l vs} {off} {r} (h:Ng l vs off=some r) i:
 r[i]?=if off<=i/\i<off+vs.length then vs[i - off]? else l[i]?:=by
 obtain ⟨h1,rfl⟩:=Ns h;by_cases h2:i<off;. grind
 grind
theorem Dl x y:J0 x y=x++y:=by induction x with
 |nil=>rfl
 |cons a x ih=>show a::J0 x y=_;grind
theorem Gh x:Q4 x=x.length:=by induction x with
 |nil=>rfl
 |cons a x ih=>show Nat.succ (Q4 x)=_;grind
theorem AfG x:Bm x=true ↔ ∀a∈x,Ge a=true:=by induction x with
 |nil=>simp;rfl
 |cons a x ih=>
  have:Bm (a::x)=Bool.rec _ (Bm x) _:=rfl;rw [this];cases h:Ge a;. grind
  grind
theorem AuL x y:AzJ x y=x++y:=by induction x with
 |nil=>rfl
 |cons a x ih=>show a::AzJ x y=_;grind
theorem AfT x y:Akm x y=x++y:=by induction x with
 |nil=>rfl
 |cons a x ih=>show a::Akm x y=_;grind
theorem Rf x:Y2 x=x.length:=by induction x with
 |nil=>rfl
 |cons a x ih=>show Nat.succ (Y2 x)=_;grind
theorem Aof l:∀n,Adh l n=if n<=l.length then some (l.drop n) else none:=by intro n;induction n with
 |zero=>rfl
 |succ n ih=>
  have:Adh l (n+1)=stl (Adh l n):=rfl;rw [this,ih];by_cases h:n<=l.length;. rw [if_pos h];cases hd:l.drop n with
    |nil=>have hlen:=congrArg List.length hd;simp at hlen;rw [if_neg om];rfl
    |cons a t=>have hlen:=congrArg List.length hd;simp at hlen;rw [if_pos om,show l.drop _=t by rw [<- List.drop_drop,hd];rfl];rfl
  . rw [if_neg h,if_neg om];rfl
theorem AuO l:∀n,AuN l n=l[n]?:=by
 intro n;have:AuN l n=shd _:=rfl;rw [this,Aof];by_cases h:n<=l.length
 . rw [if_pos h];have h0:(l.drop n)[0]?=l[n]?:=by simp
   rw [<- h0];cases l.drop n<;>rfl
 . rw [if_neg h,List.getElem?_eq_none om];rfl
theorem Asc l:∀n,Aw1 l n=l.drop n:=by induction l with
 |nil=>intro n;simp;rfl
 |cons a l ih=>intro n;cases n with
  |zero=>rfl
  |succ n=>rw [List.drop_succ_cons,<- ih n];rfl
theorem Asg:∀n l,Aw2 n l=l.take n:=by intro n;induction n with
 |zero=>intro l;rfl
 |succ n ih=>intro l;cases l with
  |nil=>rfl
  |cons a l=>rw [List.take_succ_cons,<- ih l];rfl
theorem Q1 a b:ieq a b=(a == b):=by
 cases a<;>cases b;. rename_i m n;show Nat.beq m n=_;rw [Bool.eq_iff_iff];simp_all;omega
 . rfl
 . rfl
 . rename_i m n;show Nat.beq m n=_;rw [Bool.eq_iff_iff];simp
theorem Il a b:ilt a b=decide (a<b):=by
 cases a<;>cases b;. rename_i m n;show Nat.blt m n=_;rw [Bool.eq_iff_iff];simp
 . rfl
 . show true=_;grind
 . rename_i m n;show Nat.blt n m=_;rw [Bool.eq_iff_iff];simp_all;omega
theorem Kb b:Ib b=!b:=by cases b<;>rfl
theorem Afn a b:Aju a b=(a == b):=by cases a<;>cases b<;>rfl
theorem Q3 a b:kEq a b=true ↔ a=b:=by
 constructor;. intro h;cases a<;>cases b<;>first|rfl|(exact absurd h (by decide +kernel))
 . rintro rfl;cases a<;>rfl
theorem Qi a:∀b,Qh a b=(a == b):=by induction a with
 |nil=>intro b;cases b<;>rfl
 |cons x a ih=>intro b;cases b with
  |nil=>rfl
  |cons y b=>
   have:Qh (x::a) (y::b)=Bool.rec _ (Qh a b) _:=rfl;rw [this,ih b];show _=(x == y&&a == b);have e:Nat.beq x y=(x == y):=by rw [Bool.eq_iff_iff];simp
   rw [e];cases x == y<;>rfl
theorem Zu {k} {n} (h:fits k n=true):k.min<=n/\n<=k.max:=by
 unfold fits at h;rw [Il,Il] at h;by_cases h1:n<k.min;. simp_all
 . by_cases h2:k.max<n;simp_all;omega
theorem Agq (k:IntKind) n (h:k.min<=n/\n<=k.max):k.wrap n=n:=by cases k<;>simp [IntKind.wrap,IntKind.min,IntKind.max,IntKind.bits,IntKind.signed] at *<;>omega
theorem Ub k n:E1 k n=k.wrap n:=by
 unfold E1;cases h:fits k n;. rfl
 . exact (Agq k n (Zu h)).symm
theorem AmB:∀n m:Fin 16,Xl n.1=Xl m.1->n=m:=by decide +kernel
theorem Atq:∀n m:Fin 8,V8 n.1=V8 m.1->n=m:=by decide +kernel
theorem Ahk {n m} (hn:n<16) (hm:m<16) (h:n≠m):Xl n≠Xl m:=
 λe=>h (congrArg Fin.val (AmB ⟨n,hn⟩ ⟨m,hm⟩ e))
theorem Zp {n m} (hn:n<8) (hm:m<8) (h:n≠m):V8 n≠V8 m:=
 λe=>h (congrArg Fin.val (Atq ⟨n,hn⟩ ⟨m,hm⟩ e))
theorem L2.Dh t u v (f:L2) (ht:t<256) (hu:u<256):(f.set t v).get u=if u=t then v else f.get u:=by
 have e1:∀n,Nat.div n _=n / 16:=λ_=>rfl;have e2:∀n,Nat.mod n _=n % 16:=λ_=>rfl;unfold L2.set L2.get;rw [L2.G7];simp [e1,e2];by_cases h:u / 16=t / 16
 . rw [if_pos (by grind),L1.G7];by_cases h2:u % 16=t % 16;. grind
   . rw [if_neg (Ahk om om h2),if_neg om,h]
 . rw [if_neg (Ahk om om h),if_neg om]
theorem L2.Xw t:L2.new.get t=.Bj []:=by unfold L2.get L2.new;rw [L2.G6,L1.G6]
class Ii where
 n:Nat
def Bq [Ii]:Nat:=Ii.n
instance A97:Ii:=⟨1000000000000000000⟩
theorem K6.Dh (m:K6) (i j:Nat) (v:AO) (hi:i<262144) (hj:j<262144):(m.set i v).get j=if j=i then v else m.get j:=by
 have e1:∀n d,Nat.div n d=n / d:=λ_ _=>rfl;have e2:∀n d,Nat.mod n d=n % d:=λ_ _=>rfl;unfold K6.set K6.get;simp only [e1,e2];rw [K6.G7];by_cases h6:j / 32768=i / 32768
 . rw [if_pos (by rw [h6]),K5.G7];by_cases h5:j / 4096 % 8=i / 4096 % 8
   . rw [if_pos (by rw [h5]),K4.G7];by_cases h4:j / 512 % 8=i / 512 % 8
     . rw [if_pos (by rw [h4]),K3.G7];by_cases h3:j / 64 % 8=i / 64 % 8
       . rw [if_pos (by rw [h3]),K2.G7];by_cases h2:j / 8 % 8=i / 8 % 8
         . rw [if_pos (by rw [h2]),K1.G7];by_cases h1:j % 8=i % 8;. rw [if_pos (by rw [h1]),if_pos om]
           . rw [if_neg (Zp om om h1),if_neg om,h2,h3,h4,h5,h6]
         . rw [if_neg (Zp om om h2),if_neg om,h3,h4,h5,h6]
       . rw [if_neg (Zp om om h3),if_neg om,h4,h5,h6]
     . rw [if_neg (Zp om om h4),if_neg om,h5,h6]
   . rw [if_neg (Zp om om h5),if_neg om,h6]
 . rw [if_neg (Zp om om h6),if_neg om]
theorem K6.Xw i:K6.new.get i=.none:=by unfold K6.get K6.new;rw [K6.G6,K5.G6,K4.G6,K3.G6,K2.G6,K1.G6]
theorem KM.N5 (m:KM) i j v:(m.set i v).get j=if j=i then v else m.get j:=by
 have hb:∀n,Nat.blt n 262144=decide (n<262144):=λn=>by cases hx:Nat.blt n _ with
  |true=>simp_all
  |false=>
   have:¬ n<262144:=λhh=>by rw [show Nat.blt n _=true by simpa using hh] at hx;grind
   simp_all
 unfold KM.set KM.get;rw [hb i,hb j];by_cases h1:i<262144
 . rw [decide_eq_true h1];by_cases h2:j<262144;. rw [decide_eq_true h2];exact K6.Dh _ i j v h1 h2
   . rw [decide_eq_false h2,if_neg om]
 . rw [decide_eq_false h1];by_cases h2:j<262144;. simp_all;omega
   . by_cases h3:j=i;. simp [*]
     . have:Nat.beq j i=false:=by cases hx:Nat.beq j i with
        |false=>rfl
        |true=>simp_all
       simp_all
theorem KM.Dh [Ii] (m:KM) i j v (_:i<Bq) (_:j<Bq):(m.set i v).get j=if j=i then v else m.get j:=KM.N5 m i j v
theorem KM.Xw i:KM.new.get i=.none:=by
 unfold KM.get KM.new;cases Nat.blt i _;. rfl
 . exact K6.Xw i
theorem Ata {x y} (h:Apt x y=true):x=y/\AaA x=true:=by
 unfold Apt at h;split at h;. rw [Afn] at h;exact ⟨by grind,rfl⟩
 . rename_i k a k' b;cases hk:kEq k k' with
   |false=>simp_all
   |true=>rw [hk] at h;have h':=h;rw [Q1] at h';have:=(Q3 k _).1 hk;exact ⟨by grind,rfl⟩
 . rw [Qi] at h;exact ⟨by grind,rfl⟩
 grind
theorem Xd:∀{l m},Sh l m=true->l=m/\l.all AaA=true:=by intro l;induction l with
 |nil=>intro m h;cases m with|nil=>simp|cons y m=>cases h
 |cons x l ih=>intro m h;cases m with
  |nil=>cases h
  |cons y m=>have h0:Bool.rec (motive:=λ_=>Bool) _ ..=true:=h;cases h1:Apt x y with
   |false=>simp_all
   |true=>rw [h1] at h0;obtain ⟨rfl,h3⟩:=Ata h1;grind
end Go.Ev
namespace Go.Ev
structure SE where
 c:Nat
 N:Nat
 k:Option Nat
abbrev Dx:=Nat->Option SE
inductive Au (σ:Dx):AV->Value->Prop where
 |top (v:Value):Au σ .top v
 |bool (b:Bool):Au σ (.bool b) (.bool b)
 |int (k:IntKind) (n:Int):Au σ (.int k n) (.int k n)
 |str (s:ByteArray):Au σ (.str (bytesOf s)) (.string s)
 |Ob:Au σ .Ob (.pointer none)
 |ptr (b off:Nat) (e:SE) (h:σ b=some e):Au σ (.ptr b off) (.pointer (some ⟨e.c,off,none⟩))
 |Bv:Au σ .Bv (.slice none 0 0)
 |sl (b off len cap sz:Nat) (ex:Bool) (e:SE) (cc:Nat) (h:σ b=some e) (h1:len<=cap) (h2:cap<=cc) (h3:ex=true->cc=cap) (h4:ex=false->off+cc * sz<=e.N):
  Au σ (.sl b off len cap sz ex) (.slice (some ⟨e.c,off,none⟩) len cc)
 |slw (b off:Nat) (e:SE) (h:σ b=some e) (a:Addr) (cc:Nat):Au σ (.sl b (off+1) 0 0 0 false) (.slice (some a) 0 cc)
 |Td:Au σ .Td (.map none)
 |map (r:Nat) (e:SE) (h:σ r=some e):Au σ (.map r) (.map (some e.c))
 |fn (f:Fn) (as cs:List AV) (as' D7:Array Value) (hf:∀l,f≠.yield l)
  (ha:as.length=as'.toList.length) (ha':∀(i:Nat) (x:AV) (y:Value),as[i]?=some x->as'.toList[i]?=some y->Au σ x y)
  (hc:cs.length=D7.toList.length) (Wh:∀(i:Nat) (x:AV) (y:Value),cs[i]?=some x->D7.toList[i]?=some y->Au σ x y):
  Au σ (.fn f as cs) (.func f as' D7)
 |yld (l:Nat) (e:SE) (h:σ l=some e):Au σ (.fn (.yield l) [] []) (.func (.yield e.c) #[] #[])
 |Iy:Au σ .Iy .nilFunc
 |I6 (t:TypeId) (v:AV) (v':Value) (h:Au σ v v'):Au σ (.I6 t v) (.iface t v')
 |B3:Au σ .B3 .nilIface
 |agg (cs:List AV) (D7:Array Value) (hl:cs.length=D7.toList.length) (h:∀(i:Nat) (x:AV) (y:Value),cs[i]?=some x->D7.toList[i]?=some y->Au σ x y):
  Au σ (.agg cs) (.agg D7)
 |Bj (cs:List AV) (D7:Array Value) (hl:cs.length=D7.toList.length) (h:∀(i:Nat) (x:AV) (y:Value),cs[i]?=some x->D7.toList[i]?=some y->Au σ x y):
  Au σ (.Bj cs) (.tuple D7)
def Bk (σ:Dx) (l:List AV) (a:List Value):Prop:=
 l.length=a.length/\∀(i:Nat) (x:AV) (y:Value),l[i]?=some x->a[i]?=some y->Au σ x y
def Qq (σ σ':Dx):Prop:=∀b e,σ b=some e->σ' b=some e
theorem Qq.refl σ:Qq σ σ:=λ_ _ h=>h
theorem Qq.trans {a b c} (h:Qq a b) (h':Qq b c):Qq a c:=λx e hx=>h' x e (h x e hx)
theorem Au.mono {σ σ'} (hs:Qq σ σ') {x} {v} (h:Au σ x v):Au σ' x v:=by induction h with
 |top v=>exact .top v
 |bool b=>exact .bool b
 |int k n=>exact .int k n
 |str s=>exact .str s
 |Ob=>exact .Ob
 |ptr b off e h=>exact .ptr b _ e (hs _ _ h)
 |Bv=>exact .Bv
 |sl b off len cap sz ex e cc h h1 h2 h3 h4=>exact .sl b _ _ _ _ _ e _ (hs _ _ h) h1 h2 h3 h4
 |slw b off e h a cc=>exact .slw b _ e (hs _ _ h) a _
 |Td=>exact .Td
 |map r e h=>exact .map r e (hs _ _ h)
 |fn f as cs as' D7 hf ha ha' hc Wh Rs ihc=>exact .fn f _ _ _ _ hf ha Rs hc ihc
 |yld l e h=>exact .yld l e (hs _ _ h)
 |Iy=>exact .Iy
 |I6 t v v' h ih=>exact .I6 t v _ ih
 |B3=>exact .B3
 |agg cs D7 hl h ih=>exact .agg _ _ hl ih
 |Bj cs D7 hl h ih=>exact .Bj _ _ hl ih
theorem Bk.mono {σ σ'} (hs:Qq σ σ') {l} {a} (h:Bk σ l a):Bk σ' l a:=
 ⟨h.1,λi x y hx hy=>(h.2 i x y hx hy).mono hs⟩
theorem Bk.nil σ:Bk σ [] []:=⟨rfl,λi x y hx _=>by grind⟩
theorem Bk.cons {σ} {x} {y} {l} {a} (h:Au σ x y) (hl:Bk σ l a):Bk σ (x::l) (y::a):=by refine ⟨by simp [hl.1],λi u v hu hv=>?_⟩;cases i with
 |zero=>grind
 |succ i=>exact hl.2 i u v hu hv
theorem Bk.F8 {σ} {x} {l} {a} (h:Bk σ (x::l) a):∃y a',a=y::a'/\Au σ x y/\Bk σ l a':=by cases a with
 |nil=>have:=h.1;grind
 |cons y a'=>refine ⟨y,_,rfl,h.2 0 x y rfl rfl,by have:=h.1;grind,λi u v hu hv=>h.2 (i+1) u v (by simp_all) (by grind)⟩
theorem Bk.Rt {σ} {a} (h:Bk σ [] a):a=[]:=by have:=h.1;grind
theorem Bk.append {σ} {l m} {a b} (h:Bk σ l a) (h':Bk σ m b):Bk σ (l++m) (a++b):=by induction l generalizing a with
 |nil=>have:=h.Rt;grind
 |cons x l ih=>obtain ⟨y,a',rfl,hv,hl⟩:=h.F8;exact .cons hv (ih hl)
theorem Bk.get {σ} {l} {a} (h:Bk σ l a) {i:Nat} {x} (hx:l[i]?=some x):∃y,a[i]?=some y/\Au σ x y:=by
 have hi:i<a.length:=by have:=h.1;grind
 exact ⟨a[i],List.getElem?_eq_getElem _,h.2 i x _ hx (List.getElem?_eq_getElem _)⟩
theorem Bk.take {σ} {l} {a} (h:Bk σ l a) n:Bk σ (l.take n) (a.take n):=by
 refine ⟨by simp [h.1],λi x y hx hy=>?_⟩;rw [List.getElem?_take] at hx hy;split at hx;. rename_i B6;rw [if_pos B6] at hy;exact h.2 i x y hx hy
 grind
theorem Bk.drop {σ} {l} {a} (h:Bk σ l a) n:Bk σ (l.drop n) (a.drop n):=by refine ⟨by simp [h.1],λi x y hx hy=>?_⟩;rw [List.getElem?_drop] at hx hy;exact h.2 _ x y hx hy
inductive Amq (σ:Dx):AV->Deferred->Prop where
 |fn (g:FuncId) (as cs:List AV) (as' D7:Array Value) (ha:Bk σ as as'.toList) (hc:Bk σ cs D7.toList):
  Amq σ (.fn (.func g) as cs) { target:=.fn (.func g) D7,args:=as' }
 |mk (r:Nat) (e:SE) (h:σ r=some e):Amq σ (.map r) { target:=.collected e.c,args:=#[] }
inductive Afd (σ:Dx):AV->List Deferred->Prop where
 |nil:Afd σ (.Bj []) []
 |cons (x:AV) (l:List AV) (d:Deferred) (ds:List Deferred) (h:Amq σ x d) (hl:Afd σ (.Bj l) ds):Afd σ (.Bj (x::l)) (d::ds)
 |round (l:Nat) (e:SE) (h:σ l=some e):Afd σ (.map l) []
theorem Amq.mono {σ σ'} (hs:Qq σ σ') {x} {d} (h:Amq σ x d):Amq σ' x d:=by cases h with
 |fn g as cs as' D7 ha hc=>exact .fn g _ _ _ _ (ha.mono hs) (hc.mono hs)
 |mk r e h=>exact .mk r e (hs _ _ h)
theorem Afd.mono {σ σ'} (hs:Qq σ σ') {x} {d} (h:Afd σ x d):Afd σ' x d:=by induction h with
 |nil=>exact .nil
 |cons x l d ds h hl ih=>exact .cons x l d _ (h.mono hs) ih
 |round l e h=>exact .round l e (hs _ _ h)
structure Pt (σ:Dx) (nt:Nat) (f:L2) (a:Act):Prop where
 size:a.tmps.size=nt
 slot:∀t,t<250->Au σ (f.get t) (a.tmps.getD t undef)
 defers:Afd σ (f.get Br) a.defers
theorem Pt.mono {σ σ'} (hs:Qq σ σ') {nt} {f} {a} (h:Pt σ nt f a):Pt σ' nt f a:=
 ⟨h.size,λt ht=>(h.slot t ht).mono hs,h.defers.mono hs⟩
def Ahd:CK->Option Nat
 |.exact=>none
 |.fz k=>some k
 |.Gt k=>some k
 |.Cf k _=>some k
def Adp (g:Nat->AO):CK->Prop
 |.Cf k st=>g k=.Fb st
 |_=>True
def A5v:CK->Prop
 |.exact=>True
 |.Gt _=>True
 |_=>False
def Akf:Nat->LoopState
 |0=>.ready
 |1=>.busy
 |2=>.done
 |_=>.exhausted
def Gr (G:Nat) (σ:Dx) (g:Nat->AO) (e:SE) (w:World):AO->Prop
 |.none=>True
 |.Fb _=>e.k=none
 |.cells l t k=>e.k=Ahd k/\(Adp g k->∃(arr:Array Value) (lo hi:Nat),w.heap[e.c]?=some (.cells arr t (lo,hi))/\arr.size=e.N/\l.length<=e.N /\
  (∀(i:Nat) (x:AV) (y:Value),l[i]?=some x->arr[i]?=some y->Au σ x y)/\(k=.exact->l.length=e.N)/\(A5v k->∀i,i<e.N->¬ (lo<=i/\i<hi)))
 |.map es=>e.k=none/\∃(Y8:Array MapEntry) (clock:Nat),w.heap[e.c]?=some (.map Y8 clock)/\es.length=Y8.toList.length /\
  ∀(i:Nat) (x:AV × AV) (y:MapEntry),es[i]?=some x->Y8.toList[i]?=some y->Au σ x.1 y.key/\Au σ x.2 y.val
 |.loop st Lw fr ps as bd=>e.k=none/\∃r:Loop,w.heap[e.c]?=some (.loop r)/\r.state=Akf st/\r.pending=Lw/\(∀t,t<250->Au σ (fr.get t) (r.tmps.getD t undef)) /\
  r.params.toList=ps/\r.assign=as/\r.body=bd/\r.tmps.size<250/\codeOk G r.tmps.size as=true/\codeOk G r.tmps.size bd=true/\∀d∈ps,d<r.tmps.size
 |.dfr taken=>e.k=none/\w.heap[e.c]?=some (.deferred (if taken then none else some []))
theorem Gr.congr {G} {σ σ'} {g g'} {e} {w w'} {o} (hs:Qq σ σ') (hw:w'.heap[e.c]?=w.heap[e.c]?)
 (hg:∀l t k st,o=.cells l t (.Cf k st)->g' k=.Fb st->g k=.Fb st) (h:Gr G σ g e w o):Gr G σ' g' e w' o:=by cases o with
 |none=>trivial
 |Fb n=>exact h
 |cells l t k=>
  refine ⟨h.1,λhv=>?_⟩;have hv':Adp g k:=by cases k with
   |Cf k st=>exact hg l t k _ rfl hv
   |_=>trivial
  obtain ⟨arr,lo,hi,h1,h2,h3,h4,h5⟩:=h.2 hv';exact ⟨_,_,_,hw.trans h1,h2,h3,λi x y hx hy=>(h4 i x y hx hy).mono hs,h5⟩
 |map es=>obtain ⟨hk,Y8,clock,h1,h2,h3⟩:=h;exact ⟨hk,_,_,hw.trans h1,h2,λi x y hx hy=>⟨(h3 i x y hx hy).1.mono hs,(h3 i x y hx hy).2.mono hs⟩⟩
 |loop st Lw fr ps as bd=>obtain ⟨hk,r,h1,h2,h3,h4,h5⟩:=h;exact ⟨hk,r,hw.trans h1,h2,h3,λt ht=>(h4 t ht).mono hs,h5⟩
 |dfr taken=>exact ⟨h.1,hw.trans h.2⟩
variable [Ii]
structure SOk (σ:Dx) (w:World):Prop where
 inj:∀b b' e e',σ b=some e->σ b'=some e'->e.c=e'.c->b=b'\/(e.k=e'.k/\e.k≠none)
 rng:∀b e,σ b=some e->e.c<w.heap.size
 low:∀b e,σ b=some e->b<Bq
def V1 (G:Nat) (σ:Dx) (g:Nat->AO) (w:World):Prop:=∀b e,σ b=some e->Gr G σ g e w (g b)
def Vm (G:Nat) (σ:Dx):Prop:=∀g,g<G->∃e,σ g=some e/\e.c=g
def Ej:AO->Option Nat
 |.cells _ _ k=>Ahd k
 |_=>none
def M2:AO->Option Nat
 |.cells _ _ (.Gt k)=>some k
 |.cells _ _ (.fz k)=>some k
 |_=>none
structure Om (h:H):Prop where
 top:h.nx<=Bq
 Rm:∀b,h.nx<=b->b<Bq->h.m.get b=.none
 N3:∀b k,b<Bq->Ej (h.m.get b)=some k->k<h.nx/\∃n,h.m.get k=.Fb n
 Gt:∀b b' k,b<Bq->b'<Bq->M2 (h.m.get b)=some k->M2 (h.m.get b')=some k->b=b'
 Tx:∀b l t k st n,b<Bq->h.m.get b=.cells l t (.Cf k st)->h.m.get k=.Fb n->st<=n
 len:∀b b' l t k st l' t',b<Bq->b'<Bq->h.m.get b=.cells l t (.Cf k st)->h.m.get b'=.cells l' t' (.Gt k)->l.length<=l'.length
structure J6 (h h':H) (nw:List Nat):Prop where
 lg:h'.lg=nw++h.lg
 nx:h.nx<=h'.nx
 low:∀b∈nw,b<h'.nx
 By:∀b,b<Bq->b<h.nx->b ∉ nw->h'.m.get b=h.m.get b
 N3:∀b∈nw,∀k,b<h.nx->Ej (h.m.get b)=some k->k∈nw
 Vh:∀b k,h.nx<=b->b<h'.nx->b<Bq->Ej (h'.m.get b)=some k->k∈nw\/h.nx<=k
 same:∀b k,b<h.nx->b<Bq->Ej (h'.m.get b)=some k->Ej (h.m.get b)=some k
 inv:Om h'
 live:∀b∈nw,b<h.nx->b<Bq->h.m.get b≠.none
structure Oz (σ σ':Dx) (h h':H) (w w':World) (nw:List Nat):Prop where
 le:Qq σ σ'
 fresh:∀b e,σ b=none->σ' b=some e->h.nx<=b/\b<h'.nx
 ok:SOk σ' w'
 grow:w.heap.size<=w'.heap.size
 frame:∀c,c<w.heap.size->(∀b∈nw,∀e,σ b=some e->e.c≠c)->w'.heap[c]?=w.heap[c]?
 Vh:∀b e,σ b=none->σ' b=some e->w.heap.size<=e.c\/∃b0∈nw,∃e0,σ b0=some e0/\e0.c=e.c
 io:w'.os=w.os/\w'.output=w.output
theorem J6.refl {h} (hi:Om h):J6 h h []:=
 ⟨rfl,Nat.le_refl _,λb hb=>by grind,λ_ _ _ _=>rfl,λb hb=>by grind,λb k h1 h2=>absurd h2 om,λ_ _ _ _ hh=>hh,hi,λb hb=>by cases hb⟩
theorem J6.trans {h h1 h2:H} {n1 n2:List Nat} (a:J6 h h1 n1) (b:J6 h1 h2 n2) (hl:h2.nx<=Bq):J6 h h2 (n2++n1):=by
 have e1:=a.nx;have e2:=b.nx;refine ⟨by rw [b.lg,a.lg,List.append_assoc],by omega,?_,?_,?_,?_,?_,b.inv,?_⟩
 . intro x hx;rcases List.mem_append.1 hx with hx|hx;. exact b.low x hx
   . have:=a.low x hx;omega
 . intro x h3 h4 h5;rw [List.mem_append,not_or] at h5;rw [b.By x h3 om h5.1,a.By x h3 h4 h5.2]
 . intro x hx k h4 h5;by_cases h6:x∈n1;. exact List.mem_append.2 (.inr (a.N3 x h6 k h4 h5))
   . have hx2:=(List.mem_append.1 hx).resolve_right h6;refine List.mem_append.2 (.inl (b.N3 x hx2 k om ?_));rw [a.By x om h4 h6];omega
 . intro x k h3 h4 h5 h6;by_cases h7:x<h1.nx;. rcases a.Vh x k h3 h7 h5 (b.same x k h7 h5 h6) with h8|h8;simp_all;omega
   . rcases b.Vh x k om h4 h5 h6 with h8|h8;simp_all;omega
 . intro x k h3 h4 h5;exact a.same x k h3 h4 (b.same x k om h4 h5)
 . intro x hx h3 h4;by_cases h6:x∈n1;. exact a.live x h6 h3 h4
   . have hx2:=(List.mem_append.1 hx).resolve_right h6;have:=b.live x hx2 om h4;rwa [a.By x h4 h3 h6] at this
theorem Oz.refl {σ} {h} {w} (hs:SOk σ w):Oz σ σ h h w w []:=
 ⟨Qq.refl _,λb e h1 h2=>by grind,hs,Nat.le_refl _,λ_ _ _=>rfl,λb e h1 h2=>by grind,⟨rfl,rfl⟩⟩
theorem Oz.trans {σ σ1 σ2:Dx} {h h1 h2:H} {w w1 w2:World} {n1 n2:List Nat} (a:Oz σ σ1 h h1 w w1 n1) (b:Oz σ1 σ2 h1 h2 w1 w2 n2) (e1:h.nx<=h1.nx) (e2:h1.nx<=h2.nx):
 Oz σ σ2 h h2 w w2 (n2++n1):=by
 refine ⟨a.le.trans b.le,?_,b.ok,Nat.le_trans a.grow b.grow,?_,?_,⟨b.io.1.trans a.io.1,b.io.2.trans a.io.2⟩⟩;. intro x e h3 h4;cases h5:σ1 x with
   |none=>have:=b.fresh x e h5 h4;omega
   |some e'=>have:=a.fresh x e' h3 h5;omega
 . intro c h3 h4;have g1:=a.frame c h3 (λx hx e he=>h4 x (List.mem_append.2 (.inr hx)) e he);have g2:=b.frame c (by have:=a.grow;omega) (λx hx e he hc=>?_);. rw [g2,g1]
   . cases h5:σ x with
     |some e'=>have:=a.le x e' h5;grind
     |none=>
      rcases a.Vh x e h5 he with h6|⟨b0,Sz,e0,h7,h8⟩;. omega
      grind
 . intro x e h3 h4;cases h5:σ1 x with
   |some e'=>
    have:=b.le x e' h5;rw [h4] at this;cases this;rcases a.Vh x e h3 h5 with h6|⟨b0,Sz,e0,h7,h8⟩;. exact .inl h6
    grind
   |none=>
    rcases b.Vh x e h5 h4 with h6|⟨b0,Sz,e0,h7,h8⟩;. exact .inl (by have:=a.grow;omega)
    . cases h9:σ b0 with
      |some e9=>have:=a.le b0 e9 h9;grind
      |none=>
       rcases a.Vh b0 e0 h9 h7 with h6|⟨b1,Qy,e1,Fh,Kc⟩;. exact .inl om
       grind
def Out (G:Nat) (σ:Dx) (h:H) (w:World) (σ':Dx) (h':H) (w':World):Prop:=
 ∃nw,J6 h h' nw/\Oz σ σ' h h' w w' nw/\V1 G σ' h'.m.get w'
theorem Out.refl {G} {σ} {h} {w} (hi:Om h) (hs:SOk σ w) (hm:V1 G σ h.m.get w):Out G σ h w σ h w:=
 ⟨_,J6.refl hi,Oz.refl hs,hm⟩
theorem Out.trans {G} {σ σ1 σ2} {h h1 h2} {w w1 w2} (a:Out G σ h w σ1 h1 w1) (b:Out G σ1 h1 w1 σ2 h2 w2) (hl:h2.nx<=Bq):Out G σ h w σ2 h2 w2:=by obtain ⟨n1,a1,a2,_⟩:=a;obtain ⟨n2,b1,b2,b3⟩:=b;exact ⟨_,a1.trans b1 hl,a2.trans b2 a1.nx b1.nx,b3⟩
end Go.Ev
