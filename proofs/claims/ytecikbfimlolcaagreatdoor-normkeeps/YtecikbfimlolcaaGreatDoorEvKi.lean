/- Check accepts a valid query. -/
import Derived.Test.YtecikbfimlolcaaGreatDoorEvKe
set_option linter.all false
set_option maxRecDepth 100000
noncomputable section
namespace Go.Proofs
open Go Go.Ev Go.Nm Go.Ev.Sx
variable {D:Dom} {V:Awv} {ss:List Sc} {q:Qr} {l:List Nd}
theorem AqB (h:l=[]\/∃t,E7 D false t/\size t<=Sd 3/\l=t.nodes):l=[]/\Rn l=[]\/∃t,E7 D false t/\size t<=Sd 3/\l=t.nodes/\Rn l=(normal t).nodes:=by
 rcases h with rfl|⟨t,h1,h2,rfl⟩;. exact .inl ⟨rfl,rfl⟩
 . refine .inr ⟨t,h1,h2,rfl,?_⟩;have h3:Sd 3=94:=rfl;unfold Rn;rw [Y3 (Abt h1)];simp only;rw [if_pos (by rw [Ao];omega)]
theorem AvP (h:l=[]\/∃t,E7 D true t/\size t<=Sd 3/\l=t.nodes):l=[]/\Tb l=[]\/∃t,E7 D true t/\size t<=Sd 3/\l=t.nodes/\(Tb l=[]/\same (normal t) (fixed true)=true\/Tb l=(normal t).nodes):=by
 rcases h with rfl|⟨t,h1,h2,rfl⟩;. exact .inl ⟨rfl,rfl⟩
 . have h3:Sd 3=94:=rfl;unfold Tb;rw [Y3 (Abt h1)];simp;rw [if_pos (by rw [Ao];omega)];grind
theorem Agy {t} {k} (h:E7 D k t):(normal t).nodes.length<=t.nodes.length/\size (normal t)<=size t:=by have:=(Hi t (AiX h)).2;rw [Ao,Ao];omega
theorem A6d (h:QOk ss q):QOk ss (Oa q)/\(Oa q).code.length<=q.code.length/\(Oa q).E9.length<=q.E9.length:=by
 have hc:=AqB h.code
 have hm:=AvP h.E9
 obtain ⟨q0,kv⟩:=h.kv
 refine ⟨⟨⟨h.pre.tbl,h.pre.kind,h.pre.fac,h.pre.bits⟩,⟨Oa q,⟨rfl,λa b c=>?_,λa=>?_,kv.pq1,kv.pq2,kv.Bcp,kv.Bcq,kv.bd1,kv.bd2,kv.Bdd,kv.Bde,kv.con⟩⟩,?_,?_,h.ord⟩,?_,?_⟩
 . obtain ⟨e1,e2,e3⟩:=kv.A47 a b c
   refine ⟨?_,e2,e3⟩
   show Rn q.code=[]
   rw [e1]
   rfl
 . obtain ⟨e1,e2⟩:=kv.AyG a
   refine ⟨?_,e2⟩
   rcases hc with ⟨h1,_⟩|⟨t,h1,h2,h3,h4⟩
   . exact absurd h1 e1
   . show Rn q.code≠[]
     rw [h4]
     intro h5
     have h6:=congrArg List.length h5
     rw [Ao] at h6
     have:=size_pos (normal t)
     simp at h6
     omega
 . rcases hc with ⟨_,h1⟩|⟨t,h1,h2,h3,h4⟩
   . exact .inl h1
   . exact .inr ⟨normal t,Aaz h1,Nat.le_trans (Agy h1).2 h2,h4⟩
 . rcases hm with ⟨_,h1⟩|⟨t,h1,h2,h3,⟨h4,_⟩|h4⟩
   . exact .inl h1
   . exact .inl h4
   . exact .inr ⟨normal t,Aaz h1,Nat.le_trans (Agy h1).2 h2,h4⟩
 . rcases hc with ⟨_,h1⟩|⟨t,h1,h2,h3,h4⟩
   . show (Rn q.code).length<=_
     rw [h1]
     exact Nat.zero_le _
   . show (Rn q.code).length<=_
     rw [h4,h3]
     exact (Agy h1).1
 . rcases hm with ⟨_,h1⟩|⟨t,h1,h2,h3,⟨h4,_⟩|h4⟩
   . show (Tb q.E9).length<=_
     rw [h1]
     exact Nat.zero_le _
   . show (Tb q.E9).length<=_
     rw [h4]
     exact Nat.zero_le _
   . show (Tb q.E9).length<=_
     rw [h4,h3]
     exact (Agy h1).1
def Abj:List Cl->List Nat->Nat
 |[],_=>0
 |c::l,n=>if c.name=n then 0 else Abj l n+1
def Abl:List (List Nat)->List Nat->Nat
 |[],_=>0
 |w::l,n=>if w=n then 0 else Abl l n+1
theorem Ad2:∀{l:List Cl} {n:List Nat},(∃c∈l,c.name=n)->∃c,l[Abj l n]?=some c/\c.name=n/\∀i,i<Abj l n->∃d,l[i]?=some d/\d.name≠n
 |[],n,h=>by obtain ⟨_,h,_⟩:=h;cases h
 |c::l,n,h=>by
  unfold Abj
  by_cases hc:c.name=n
  . rw [if_pos hc]
    exact ⟨c,rfl,hc,λi hi=>absurd hi (Nat.not_lt_zero _)⟩
  . rw [if_neg hc]
    obtain ⟨d,hd,hn⟩:=h
    rcases List.mem_cons.1 hd with rfl|hd
    . exact absurd hn hc
    . obtain ⟨e,e1,e2,e3⟩:=Ad2 (l:=l) ⟨d,hd,hn⟩
      refine ⟨e,e1,e2,λi hi=>?_⟩
      cases i with
      |zero=>exact ⟨c,rfl,hc⟩
      |succ i=>exact e3 i om
theorem Aec:∀{l:List (List Nat)} {n:List Nat},n∈l->l[Abl l n]?=some n/\∀i,i<Abl l n->∃d,l[i]?=some d/\d≠n
 |[],n,h=>by cases h
 |c::l,n,h=>by
  unfold Abl
  by_cases hc:c=n
  . rw [if_pos hc]
    exact ⟨congrArg some hc,λi hi=>absurd hi (Nat.not_lt_zero _)⟩
  . rw [if_neg hc]
    rcases List.mem_cons.1 h with h|hd
    . exact absurd h.symm hc
    . obtain ⟨e1,e3⟩:=Aec (l:=l) hd
      refine ⟨e1,λi hi=>?_⟩
      cases i with
      |zero=>exact ⟨c,rfl,hc⟩
      |succ i=>exact e3 i om
def Ag2 (A1:List Cl) (vs:List Int):Awv:=⟨λn=>vs.getD (Abj A1 n) 0,λn w=>match A1[Abj A1 n]? with|some c=>(Abl c.ws w:Int)|none=>0⟩
theorem A0h {A1:List Cl} {vs:List Int} (h:∀x∈vs,-1000<=x/\x<=1000):VOk (AaR A1) (Ag2 A1 vs):=by
 intro n _
 show -1000000000000000<=vs.getD _ 0/\vs.getD _ 0<=1000000000000000
 rw [List.getD_eq_getElem?_getD]
 cases hv:vs[Abj A1 n]? with
 |none=>decide
 |some x=>
  have:=h x (List.mem_of_getElem? hv)
  show _<=x/\x<=_
  omega
end Go.Proofs
namespace Go.Proofs
open Go Go.Ev Go.Nm Tryz Go.Ev.Sx
attribute [local irreducible] Aa Al Af Ad
variable (ctx:Ac) (N:Nat)
def AjO (o:Int):List Int:=if o=8 then [1,0,0] else if o=7 then [0] else if o=17 then [1] else if o=15\/o=16 then [1,1] else if 4<=o then [0,0] else []
def gvO (o:Int):Int:=if 9<=o then 1 else 0
theorem BcX {h:H} {b n:Nat} {cs:List AV} {et:TypeId} (hg:h.m.get b=.cells cs et .exact) (hb:b<h.nx) (hn:cs.length=n):Sl 1 h (.sl b 0 n n 1 true) n cs:=
 .inr ⟨b,0,n,true,cs,rfl,Nat.le_refl _,⟨hb,et,.exact,hg,trivial⟩,by omega,by rw [List.drop_zero,Nat.mul_one,<- hn,List.take_length]⟩
abbrev Axn (b:Nat):List AV:=
 [.Bv,.int .i64 0,.Bv,.int .i64 0,.Bv,.int .i64 0,.Bv,.int .i64 0,.sl (b+2) 0 2 2 1 true,.int .i64 0,.sl (b+2) 0 2 2 1 true,.int .i64 0,.sl (b+2) 0 2 2 1 true,.int .i64 0,.sl (b+1) 0 1 1 1 true,.int .i64 0,.sl (b+5) 0 3 3 1 true,.int .i64 0,
  .sl (b+2) 0 2 2 1 true,.int .i64 1,.sl (b+2) 0 2 2 1 true,.int .i64 1,.sl (b+2) 0 2 2 1 true,.int .i64 1,.sl (b+2) 0 2 2 1 true,.int .i64 1,.sl (b+2) 0 2 2 1 true,.int .i64 1,.sl (b+2) 0 2 2 1 true,.int .i64 1,.sl (b+4) 0 2 2 1 true,.int .i64 1,.sl (b+4) 0 2 2 1 true,.int .i64 1,.sl (b+3) 0 1 1 1 true,.int .i64 1]
structure AsA (b:Nat) (h:H):Prop where
 lt:b+5<h.nx
 g1:h.m.get (b+1)=.cells [.int .i64 0] 208 .exact
 g2:h.m.get (b+2)=.cells [.int .i64 0,.int .i64 0] 208 .exact
 g3:h.m.get (b+3)=.cells [.int .i64 1] 208 .exact
 g4:h.m.get (b+4)=.cells [.int .i64 1,.int .i64 1] 208 .exact
 g5:h.m.get (b+5)=.cells [.int .i64 1,.int .i64 0,.int .i64 0] 208 .exact
theorem AsA.gr {b:Nat} {h h1:H} (K:AsA b h) (e:Ai h h1):AsA b h1:=by
 have hl:=K.lt
 exact ⟨Nat.lt_of_lt_of_le hl e.lo,(e.Cf _ om).trans K.g1,(e.Cf _ om).trans K.g2,(e.Cf _ om).trans K.g3,(e.Cf _ om).trans K.g4,(e.Cf _ om).trans K.g5⟩
def Bey:Prop:=∀(h:H),Ah h (λr h1=>∃b,r=.agg (Axn b)/\AsA b h1) (ctx.call 140 [] h)
set_option maxHeartbeats 2000000 in
theorem Bld (h:H):Ah h (λr h1=>∃b,r=.agg (Axn b)/\AsA b h1) (Ay prog ctx N true 140 [] h):=by
 rw [Bjo]
 refine wk ?_
 refine zr Ex ⟨h.nx,rfl,?_,?_,?_,?_,?_,?_⟩
 . show h.nx+5<h.nx+1+1+1+1+1+1
   omega
 all_goals simp (disch:=first|exact dA|fail) [lw]
def opW (b:Nat) (o:Int):AV:=if o=8 then .sl (b+5) 0 3 3 1 true else if o=7 then .sl (b+1) 0 1 1 1 true else if o=17 then .sl (b+3) 0 1 1 1 true else if o=15\/o=16 then .sl (b+4) 0 2 2 1 true else if 4<=o then .sl (b+2) 0 2 2 1 true else .Bv
theorem Bdc {b bo:Nat} {o:Int} (h1:1<=o) (h2:o<=17):∃off w,(∀hh,AxM 18 2 (.ptr bo 0) (.int .i64 o) hh=.ok (.ptr bo off) hh)/\(∀hh,hh.m.get bo=.cells (Axn b) 211 .exact->Ae (some (some 2)) (.ptr bo off) hh=.ok (.agg [w,.int .i64 (gvO o)]) hh)/\(Ge w=true/\cellsOf w=some [w])/\∀hh,AsA b hh->IsL hh w (AjO o):=by
 have hS:∀(c n:Nat) (l:List Int) (hh:H),hh.m.get c=.cells (l.flatMap λn:Int=>[AV.int .i64 n]) 208 .exact->c<hh.nx->l.length=n->IsL hh (.sl c 0 n n 1 true) l:=λc n l hh hg hc hn=>by
  subst hn
  exact .of (BcX hg hc (Aa9 (f:=λn:Int=>[AV.int .i64 n]) (s:=1) (λ_=>rfl) l |>.trans (Nat.mul_one _)))
 refine ⟨2 * o.toNat,opW b o,?_⟩
 have BcE:o=1\/o=2\/o=3\/o=4\/o=5\/o=6\/o=7\/o=8\/o=9\/o=10\/o=11\/o=12\/o=13\/o=14\/o=15\/o=16\/o=17:=by omega
 rcases BcE with rfl|rfl|rfl|rfl|rfl|rfl|rfl|rfl|rfl|rfl|rfl|rfl|rfl|rfl|rfl|rfl|rfl
 all_goals
  refine ⟨λhh=>rfl,λhh hg=>?_,?_,λhh K=>?_⟩
 all_goals first
  |exact IsL.nil _
  |exact hS _ _ _ _ K.g1 (by have:=K.lt;omega) rfl
  |exact hS _ _ _ _ K.g2 (by have:=K.lt;omega) rfl
  |exact hS _ _ _ _ K.g3 (by have:=K.lt;omega) rfl
  |exact hS _ _ _ _ K.g4 (by have:=K.lt;omega) rfl
  |exact hS _ _ _ _ K.g5 (by have:=K.lt;omega) rfl
  |exact ⟨rfl,rfl⟩
  |(simp (disch:=first|exact dA|fail) [lw,hg,opW,gvO];done)
def Bbn (l:List Nd) (A1:List Cl) (i:Int) (x:Nd):Prop:=(x.op=1/\x.Zn=[]/\0<=x.n/\x.n<=1000000000)\/(x.op=2/\x.n=0/\∃c∈A1,c.name=x.Zn)\/(x.op=3/\x.n=0/\1<=i/\∃y z,l[(i - 1).toNat]?=some y/\l[(i+1).toNat]?=some z/\y.op=2/\(z.op=9\/z.op=10)/\∃c∈A1,c.name=y.Zn/\x.Zn∈c.ws)\/(4<=x.op/\x.op<=17/\x.n=0/\x.Zn=[])
def A7u:Prop:=∀(v cv:AV) (l:List Nd) (A1:List Cl) (i:Int) (x:Nd) (h:H),Ue h v l->CsE h cv A1->l.length<=200->0<=i->l[i.toNat]?=some x->Bbn l A1 i x->Ah h ok0 (ctx.call 141 [v,.int .i64 i,cv] h)
set_option maxHeartbeats 2000000 in
theorem Ble (h87:R87 ctx) (A5g:Be6 ctx) (v cv:AV) (l:List Nd) (A1:List Cl) (i:Int) (x:Nd) (h:H) (hv:Ue h v l) (hc:CsE h cv A1) (hl:l.length<=200) (hi:0<=i) (hx:l[i.toNat]?=some x) (Ga:Bbn l A1 i x):Ah h ok0 (Ay prog ctx N false 141 [v,.int .i64 i,cv] h):=by
 rw [Bjp]
 obtain ⟨b1,o1,x1,x2,_,_⟩:=Af8 hv hi hx
 rcases Ga with ⟨p1,p2,p3,p4⟩|⟨p1,p2,p3⟩|⟨p1,p2,p3,y,z,p4,p5,p6,p7,p8⟩|⟨p1,p2,p3,p4⟩
 . obtain ⟨op,n,Zn⟩:=x
   simp only at p1 p2 p3 p4
   subst p1 p2
   have k1:decide (n<0)=false:=df
   have k2:decide ((1000000000:Int)<n)=false:=df
   clear hv hc hx h87 A5g
   by_cases hn:n=0
   . have k3:decide (n=0)=true:=decide_eq_true hn
     refine wk ?_
     exact zr Ex rfl
   . have k3:decide (n=0)=false:=decide_eq_false hn
     refine wk ?_
     exact zr Ex rfl
 . have hE:=λhx e=>h87 cv A1 x.Zn hx (hc.r.By e) p3
   have AdM:=hc.r.one
   obtain ⟨op,n,Zn⟩:=x
   simp only at p1 p2 p3 hE
   subst p1 p2
   replace hE:=(show F5 _ from hE)
   replace AdM:=(show F5 _ from AdM)
   clear hv hc hx h87 A5g p3
   by_cases hn:Zn=[]
   . subst hn
     have k3:decide (([]:List Nat)=[])=true:=rfl
     refine wk ?_
     refine Fj ((show ∀(hx:H) (e:Bi h hx),_ from hE) _ M0) λv1 h1 e1 l1 Aad q1=>?_
     obtain ⟨c,Hq,hcn,rfl⟩:=q1
     obtain ⟨w1,w2⟩:=(show ∀c∈A1,Ge c.w=true/\cellsOf c.w=some [c.w] from AdM) c Hq
     clear hcn
     try simp only [C9] at l1
     refine wk ?_
     exact zr Ex rfl
   . have k3:decide (Zn=[])=false:=decide_eq_false hn
     refine wk ?_
     refine Fj ((show ∀(hx:H) (e:Bi h hx),_ from hE) _ M0) λv1 h1 e1 l1 Aad q1=>?_
     obtain ⟨c,Hq,hcn,rfl⟩:=q1
     obtain ⟨w1,w2⟩:=(show ∀c∈A1,Ge c.w=true/\cellsOf c.w=some [c.w] from AdM) c Hq
     clear hcn
     try simp only [C9] at l1
     refine wk ?_
     exact zr Ex rfl
 . have hE:=λhh (e:Bi h hh)=>A5g v cv l A1 i y x z hh (Sl.By hv e) (hc.By e) hl p3 p4 hx p5 p6 p7 p8
   obtain ⟨op,n,Zn⟩:=x
   simp only at p1 p2 hE
   subst p1 p2
   replace hE:=(show F5 _ from hE)
   clear hv hc hx h87 A5g p4 p5 p6 p7 p8
   by_cases hn:Zn=[]
   . subst hn
     have k3:decide (([]:List Nat)=[])=true:=rfl
     refine wk ?_
     refine Fj ((show ∀(hx:H) (e:Bi h hx),_ from hE) _ M0) λv1 h1 e1 l1 Aad q1=>?_
     subst q1
     exact zr Ex rfl
   . have k3:decide (Zn=[])=false:=decide_eq_false hn
     refine wk ?_
     refine Fj ((show ∀(hx:H) (e:Bi h hx),_ from hE) _ M0) λv1 h1 e1 l1 Aad q1=>?_
     subst q1
     exact zr Ex rfl
 . obtain ⟨op,n,Zn⟩:=x
   simp only at p1 p2 p3 p4
   subst p3 p4
   have k1:decide (op<1)=false:=df
   have k2:decide ((17:Int)<op)=false:=df
   have k3:decide (op=3)=false:=df
   have k4:decide (op=2)=false:=df
   clear hv hc hx h87 A5g
   refine wk ?_
   exact zr Ex rfl
end Go.Proofs
namespace Go.Proofs
open Go Go.Ev Go.Nm Tryz Go.Ev.Sx
attribute [local irreducible] Aa Al Af Ad
variable (ctx:Ac) (N:Nat)
structure C89 (hB:H) (v cv:AV) (l:List Nd) (A1:List Cl) (bo bs lo:Nat):Prop where
 nd:Ue hB v l
 cs:CsE hB cv A1
 len:l.length<=200
 op:∃b,hB.m.get bo=.cells (Axn b) 211 .exact/\AsA b hB
 bo:bo<hB.nx
 bs:hB.nx<=bs
variable {hB:H} {v cv:AV} {l:List Nd} {A1:List Cl} {bo bs lo:Nat} {cond:Bool}
def G89 (ctx:Ac) (N:Nat) (hB:H) (v cv:AV) (l:List Nd) (bo bs lo:Nat) (cond:Bool) (i:Nat) (st:List Int):Prop:=∀(hd:H) (f0:L2) (n:Nat),Ai hB hd->AhD lo bs hd st->l.length<n+i->st.length<=i->Ah hB ok0 (AtA ctx N n v cv (.bool cond) (.ptr bo 0) (.ptr bs 0) (.int .i64 (l.length:Int)) (.int .i64 (i:Int)) f0 hd)
set_option maxHeartbeats 1000000 in
theorem s89 (A0q:A7u ctx) (A0r:A7x ctx) (A0s:A7y ctx) (K:C89 hB v cv l A1 bo bs lo) {i:Nat} {x:Nd} (hx:l[i]?=some x) (Ga:Bbn l A1 (i:Int) x) {st ts:List Int} (hts:ts=AjO x.op) (hG:G89 ctx N hB v cv l bo bs lo cond (i+1) (st++[gvO x.op])):G89 ctx N hB v cv l bo bs lo cond i (st++ts):=by
 intro hd f0 n g hb hn hlen
 have hi:=(List.getElem?_eq_some_iff.1 hx).1
 have hl:=K.len
 obtain ⟨n1,rfl⟩:∃n1,n=n1+1:=⟨n - 1,by omega⟩
 obtain ⟨b,De,hob⟩:=K.op
 have hor:1<=x.op/\x.op<=17:=by rcases Ga with h1|h1|h1|h1<;>omega
 obtain ⟨off,w,y1,y2,⟨y3,y4⟩,y5⟩:=Bdc (b:=b) (bo:=bo) hor.1 hor.2
 have h1:=A0q v cv l A1 (i:Int) x hd (Sl.By K.nd g.keeps) (K.cs.By g.keeps) hl om hx Ga
 obtain ⟨b1,o1,x1,_,x2,_⟩:=Af8 (i:=(i:Int)) K.nd om hx
 have hbo:=K.bo
 have hbs:=K.bs
 have S4:(st++ts).length<=200:=by omega
 have AaI:(st++[gvO x.op]).length<=i+1:=by
  rw [List.length_append] at hlen ⊢
  simp
  omega
 have k1:decide ((i:Int)<(l.length:Int))=true:=dt
 have blt:=hb.lt
 have bnx:=hb.nx
 subst hts
 rw [A4g]
 have hG':=λhy f e q=>hG hy f n1 e q om AaI
 obtain ⟨i1,hi1⟩:∃i1:Int,i1=(i:Int):=⟨_,rfl⟩
 have hi2:((i+1:Nat):Int)=i1+1:=by omega
 rw [hi2] at hG'
 rw [<- hi1] at h1 x1 k1 ⊢
 have hr1:0<=i1:=by omega
 have hr2:i1<=200:=by omega
 have hC:=λhh e q=>A0r lo bs hh hB st (AjO x.op) w e (y5 hh (hob.gr q)) q hbs om
 have hP:=λhh e q=>A0s lo bs hh hB st (gvO x.op) e q hbs (by rw [List.length_append] at S4;omega)
 replace hC:=(show F5 _ from hC)
 replace hP:=(show F5 _ from hP)
 replace hG':=(show F5 _ from hG')
 replace h1:=(show F5 _ from h1)
 replace y5:=(show F5 _ from y5)
 clear hG Ga hx A0q A0r A0s K hob hlen AaI hn hi1 hi2
 refine wk ?_
 refine Fj (show Ah hd ok0 (ctx.call 141 [v,.int .i64 i1,cv] hd) from h1) λv2 h2 e2 l2 Aae q2=>?_
 subst q2
 have g2:=g.trans e2
 have b2:=hb.gr e2
 have f2:=(g2.Cf bo hbo).trans De
 have z2:=y2 h2 f2
 have z3:=x2 h2 g2.keeps
 clear hb h1 Aae
 refine wk ?_
 refine Fj ((show ∀hh (e:AhD lo bs hh (st++AjO x.op)) (q:Ai hB hh),_ from hC) _ (b2.gr Ex) Ex) λv5 h5 e5 l5 Az4 q5=>?_
 obtain ⟨rfl,q6,q7,q8⟩:=q5
 try simp only [C9] at q6
 have f5:=(q8 h2.nx (by simp only [C9];omega) om).trans (show _=AO.cells [w,.int .i64 (gvO x.op)] 210 .exact by simp (disch:=first|exact dA|fail) [lw])
 clear q8 hC z2 z3 f2
 refine wk ?_
 refine Fj ((show ∀hh (e:AhD lo bs hh st) (q:Ai hB hh),_ from hP) _ q7 e5) λv6 h6 e6 l6 Axm q9=>?_
 clear hP
 refine wk ?_
 exact (show ∀hy f (e:Ai hB hy) (q:AhD lo bs hy (st++[gvO x.op])),_ from hG') h6 _ e6 q9.2
theorem f89 (A0t:A7H ctx) (K:C89 hB v cv l A1 bo bs lo):G89 ctx N hB v cv l bo bs lo cond l.length [Yg cond]:=by
 intro hd f0 n g hb hn hlen
 obtain ⟨n1,rfl⟩:∃n1,n=n1+1:=⟨n - 1,by omega⟩
 obtain ⟨sv,q1,q2⟩:=hb.at'
 have blt:=hb.lt
 have bnx:=hb.nx
 have k1:decide ((l.length:Int)<(l.length:Int))=false:=df
 obtain ⟨o1,o2⟩:=AsN q2
 have hC:Ah (hd.new (.cells [.int .i64 (Yg cond)] 208 .exact)) (λr _=>r=.bool true) (ctx.call 144 [sv,.sl hd.nx 0 1 1 1 true] (hd.new (.cells [.int .i64 (Yg cond)] 208 .exact))):=
  A0t sv (.sl hd.nx 0 1 1 1 true) [Yg cond] _ (.of (q2.gr ((Ai.refl hd).new _)).sl) (.of (Sl.lit (Bf _) rfl rfl)) (by simp)
 replace hC:=(show F5 _ from hC)
 obtain ⟨li,hli⟩:∃li:Int,li=(l.length:Int):=⟨_,rfl⟩
 rw [<- hli] at k1 ⊢
 clear hb q2 A0t hn hlen hli
 rw [A4g]
 cases cond
 all_goals
  refine wk ?_
  rw [Bbl]
  refine wk ?_
  refine Fj (show Ah _ (λr _=>r=.bool true) (ctx.call 144 [sv,.sl hd.nx 0 1 1 1 true] _) from hC) λv2 h2 e2 l2 Aae q2=>?_
  subst q2
  have g2:Ai hB h2:=(g.new _).trans e2
  refine wk ?_
  exact zr g2 rfl
def kV (t:Tr):Int:=Yg (F4 t)
theorem Af6 {D:Dom} {t:Tr} {k:Bool} (h:E7 D k t):kV t=Yg k:=by rw [kV,Oj (Abt h)]
theorem Adw {pre post:List Nd} {x:Nd}:(pre++x::post)[pre.length]?=some x:=by simp
theorem Bda (A0q:A7u ctx) (A0r:A7x ctx) (A0s:A7y ctx) (K:C89 hB v cv l A1 bo bs lo):Bbm (AaR A1) l (G89 ctx N hB v cv l bo bs lo cond) kV:=by
 have S:=λ{i:Nat} {x:Nd} hx Ga {st ts:List Int} hts hG=>s89 ctx N (cond:=cond) A0q A0r A0s K (i:=i) (x:=x) hx Ga (st:=st) (ts:=ts) hts hG
 refine ⟨?_,?_,?_,?_,?_⟩
 . intro pre x post st hl h hG
   have hx:l[pre.length]?=some x:=by rw [hl];exact Adw
   rw [Af6 h] at hG
   have h0:=h.2
   rw [<- List.append_nil st]
   refine S hx ?_ (st:=st) (ts:=[]) ?_ ?_
   . rcases h0 with ⟨a1,a2,a3,a4⟩|⟨a1,a2,a3⟩
     . exact .inl ⟨a1,a2,a3,a4⟩
     . exact .inr (.inl ⟨a1,a2,a3⟩)
   . rcases h0 with ⟨a1,_⟩|⟨a1,_⟩<;>rw [a1]<;>rfl
   . have:gvO x.op=Yg false:=by rcases h0 with ⟨a1,_⟩|⟨a1,_⟩<;>rw [a1]<;>rfl
     rw [this]
     exact hG
 . intro pre x y o post st hl h ho hG
   obtain ⟨⟨a1,a2,a3⟩,a4,a5,a6⟩:=h
   have hx:l[pre.length]?=some x:=by rw [hl];exact Adw
   have hy:l[pre.length+1]?=some y:=by rw [hl];simp
   have hz:l[pre.length+2]?=some ⟨o,0,[]⟩:=by rw [hl];simp
   have e1:kV (.two o (.leaf x) (.leaf y))=1:=by
    have:F4 (.two o (.leaf x) (.leaf y))=true:=by rcases ho with rfl|rfl<;>rfl
    rw [kV,this]
    rfl
   rw [e1] at hG
   rw [<- List.append_nil st]
   refine S hx (.inr (.inl ⟨a1,a2,a3⟩)) (by rw [a1];rfl) ?_
   rw [<- List.append_nil (st++_)]
   refine S hy (.inr (.inr (.inl ⟨a4,a5,by omega,x,⟨o,0,[]⟩,?_,?_,a1,ho,a6⟩))) (by rw [a4];rfl) ?_
   . rw [show (((pre.length+1:Nat):Int) - 1).toNat=pre.length by omega]
     exact hx
   . rw [show (((pre.length+1:Nat):Int)+1).toNat=pre.length+2 by omega]
     exact hz
   . rw [List.append_assoc]
     refine S hz (.inr (.inr (.inr ⟨by show 4<=o;omega,by show o<=17;omega,rfl,rfl⟩))) ?_ ?_
     . rw [a1,a4]
       rcases ho with rfl|rfl<;>rfl
     . have:gvO o=1:=by rcases ho with rfl|rfl<;>rfl
       show G89 ctx N hB v cv l bo bs lo cond (pre.length+2+1) (st++[gvO o])
       rw [this]
       exact hG
 . intro pre o a k post st hl h hG
   have hx:l[pre.length]?=some ⟨o,0,[]⟩:=by rw [hl];exact Adw
   rw [Af6 h] at hG
   refine S hx (.inr (.inr (.inr ⟨by show 4<=o;rcases h with h|h<;>omega,by show o<=17;rcases h with h|h<;>omega,rfl,rfl⟩))) ?_ ?_
   . rcases h with ⟨rfl,rfl,h⟩|⟨rfl,rfl,h⟩<;>rw [Af6 h]<;>rfl
   . rcases h with ⟨rfl,rfl,h⟩|⟨rfl,rfl,h⟩<;>exact hG
 . intro pre o a c k j post st hl h ha hc hj hG
   have hx:l[pre.length]?=some ⟨o,0,[]⟩:=by rw [hl];exact Adw
   have ho:4<=o/\o<=16/\o≠7/\o≠8:=by rcases h with h|h|h|h<;>omega
   rw [Af6 h] at hG
   refine S hx (.inr (.inr (.inr ⟨by show 4<=o;omega,by show o<=17;omega,rfl,rfl⟩))) ?_ ?_
   . rw [Af6 ha,Af6 hc]
     show _=AjO o
     unfold AjO
     rw [if_neg om,if_neg om,if_neg om]
     cases j
     . rw [if_neg (λhh=>by have:=hj.2 om;cases this),if_pos om]
       rfl
     . rw [if_pos (by have:=hj.1 rfl;omega)]
       rfl
   . have:gvO o=Yg k:=by
      rcases h with ⟨rfl,h1,_⟩|⟨rfl,h1,_⟩|⟨rfl,h1,_⟩|⟨rfl,h1,_⟩
      . exact if_neg om
      all_goals exact if_pos om
     show G89 ctx N hB v cv l bo bs lo cond (pre.length+1) (st++[gvO o])
     rw [this]
     exact hG
 . intro pre p a c post st hl h hG
   have hx:l[pre.length]?=some ⟨8,0,[]⟩:=by rw [hl];exact Adw
   rw [Af6 h] at hG
   refine S hx (.inr (.inr (.inr ⟨by decide,by decide,rfl,rfl⟩))) ?_ hG
   rw [Af6 h.2.1,Af6 h.2.2.1,Af6 h.2.2.2]
   rfl
def R89:Prop:=∀(v cv:AV) (A1:List Cl) (k:Bool) (t:Tr) (h:H),Ue h v t.nodes->CsE h cv A1->E7 (AaR A1) k t->size t<=200->Ah h ok0 (ctx.call 89 [v,cv,.bool k] h)
set_option maxHeartbeats 1000000 in
theorem r89 (hN:1000<N) (BjR:Bey ctx) (A0q:A7u ctx) (A0r:A7x ctx) (A0s:A7y ctx) (A0t:A7H ctx) (v cv:AV) (A1:List Cl) (k:Bool) (t:Tr) (h:H) (hv:Ue h v t.nodes) (hc:CsE h cv A1) (ht:E7 (AaR A1) k t) (hs:size t<=200):Ah h ok0 (Ay prog ctx N false 89 [v,cv,.bool k] h):=by
 rw [e89]
 have hlen:∀hh,Fo v hh=.ok (.int .i64 (t.nodes.length:Int)) hh:=λ_=>hv.Gs
 have hnl:=Ao t
 have k1:decide ((200:Int)<(t.nodes.length:Int))=false:=df
 have go:∀(zs:AO) (b:Nat) (h3:H) (f0:L2),Ai h h3->AsA b h3->Ah h ok0 (AtA ctx N N v cv (.bool k) (.ptr h3.nx 0) (.ptr (h3.nx+1) 0) (.int .i64 (t.nodes.length:Int)) (.int .i64 0) f0 ((((h3.new zs).put h3.nx (.cells (Axn b) 211 .exact))).new (.cells [.Bv] 215 .exact))):=by
  intro zs b h3 f0 g3 hob
  have g31:Ai h3 ((h3.new zs).put h3.nx (.cells (Axn b) 211 .exact)):=((Ai.refl h3).new _).put h3.nx _ (Nat.le_refl _)
  have gB:=g3.trans g31
  have K:C89 ((h3.new zs).put h3.nx (.cells (Axn b) 211 .exact)) v cv t.nodes A1 h3.nx (h3.nx+1) (h3.nx+2):=⟨Sl.By hv gB.keeps,hc.By gB.keeps,by omega,⟨b,A2 ..,hob.gr g31⟩,Nat.lt_succ_self _,Nat.le_refl _⟩
  have hG:=Ab4 (Bda ctx N (cond:=k) A0q A0r A0s K) t k ht [] [] [] (by simp) (by
   have:=f89 ctx N (cond:=k) A0t K
   rw [Af6 ht]
   simpa using this)
  refine Ah.of gB (hG _ f0 N ((Ai.refl _).new _) ⟨Nat.lt_succ_self _,Nat.le_refl _,.Bv,Bf _,Aa4.nil _ _ _⟩ ?_ (Nat.zero_le _))
  show t.nodes.length<N+0
  omega
 generalize hli:(t.nodes.length:Int)=li at hlen k1 go ⊢
 replace go:=(show F5 _ from go)
 have h3:=BjR h
 replace h3:=(show F5 _ from h3)
 clear hv hc ht hnl hli
 refine wk ?_
 refine Fj (show Ah h _ (ctx.call 140 [] h) from h3) λv2 h2 e2 l2 Aae q2=>?_
 obtain ⟨b,rfl,hob⟩:=q2
 have Vr:=λzs f=>(show ∀(zs:AO) (b:Nat) (h3:H) (f0:L2),Ai h h3->AsA b h3->_ from go) zs b h2 f e2 hob
 replace Vr:=(show F5 _ from Vr)
 clear go h3 hob
 refine wk ?_
 exact (show ∀(zs:AO) (f:L2),_ from Vr) _ _
end Go.Proofs
namespace Go.Proofs
open Go Go.Ev Go.Nm Tryz Go.Ev.Sx
attribute [local irreducible] Aa Al Af Ad
variable (ctx:Ac) (N:Nat)
variable {ss:List Sc} {q:Qr} {vc vo vm sv:AV} {x:Nat} {a b:Sc} {cv:AV} {h:H}
theorem Qst.cse (K:Qst ss q vc vo vm sv x a b cv h) (hV:SsV ss):CsE h cv (a.A1++b.A1):=by
 refine ⟨K.cs,λc hc=>?_,λc hc d hd hn=>?_⟩
 . obtain ⟨s,hs,X3⟩:=K.Zn hc
   have h1:=(K.sd.d s hs).cs
   exact ⟨h1.w c X3,(h1.ok c X3).2.Mu⟩
 . obtain ⟨s,hs,X3⟩:=K.Zn hc
   obtain ⟨t,ht,htd⟩:=K.Zn hd
   have e:=congrArg (λp=>p.2.2.2) (AiV hV hs ht X3 htd hn)
   simpa [Px] using e
theorem r52 (h89:R89 ctx) (K:Qst ss q vc vo vm sv x a b cv h) (hV:SsV ss) (hm:q.E9=[]\/∃t,E7 (AaR (AaF ss q)) true t/\size t<=Sd 3/\q.E9=t.nodes):Ah h ok0 (Ay prog ctx N true 52 [.ptr x 0] h):=by
 rw [e52]
 have hg:=K.get
 have hx:=K.lt
 have hl:∀hh,Fo vm hh=.ok (.int .i64 (q.E9.length:Int)) hh:=λ_=>K.m.Gs
 rcases hm with hm|⟨t,h1,h2,h3⟩
 . rw [hm] at hl
   have k1:decide (((([]:List Nd).length:Int))=0)=true:=rfl
   clear K
   refine wk ?_
   exact zr Ex rfl
 . have hc:=K.cse hV
   rw [K.A1] at hc
   have hE:=λhh (e:Bi h hh)=>h89 vm cv _ true t hh (h3 ▸ Sl.By K.m e) (hc.By e) h1 (Nat.le_trans h2 (by decide))
   replace hE:=(show F5 _ from hE)
   have hp:1<=q.E9.length:=by rw [h3,Ao];exact size_pos t
   generalize hli:(q.E9.length:Int)=li at hl
   have k1:decide (li=0)=false:=df
   clear K hc h3 hli hp
   refine wk ?_
   refine zc2 ((show ∀(hx:H) (e:Bi h hx),_ from hE) _ M0) λv1 h1 e1 l1 Aad q1=>?_
   subst q1
   repeat' (first|refine wk ?_|(refine zqq ?_ ?_<;>intro hc<;>(try (exfalso;omega)))|fail)
   exact zr Ex rfl
theorem r53 (h85:R85 ctx) (h89:R89 ctx) (K:Qst ss q vc vo vm sv x a b cv h) (hV:SsV ss) {q0:Qr} (kv:KV (AaF ss q) q0 q) (hm:q.code=[]\/∃t,E7 (AaR (AaF ss q)) false t/\size t<=Sd 3/\q.code=t.nodes):Ah h ok0 (Ay prog ctx N true 53 [.ptr x 0] h):=by
 rw [e53]
 have hg:=K.get
 have hx:=K.lt
 have hI:=A6m ctx (q:=q) h85 hg hx
 by_cases hv:q.c0=2\/q.c0=4\/q.c0=5
 . rw [decide_eq_true hv] at hI
   obtain ⟨t,h1,h2,h3⟩:=hm.resolve_left (kv.AyG hv).1
   have hc:=K.cse hV
   rw [K.A1] at hc
   have hE:=λhh (e:Bi h hh)=>h89 vc cv _ false t hh (h3 ▸ Sl.By K.c e) (hc.By e) h1 (Nat.le_trans h2 (by decide))
   replace hE:=(show F5 _ from hE)
   clear K hc h3 kv hv hm
   (repeat' (first|refine wk ?_|((with_reducible (first|apply Fj|apply zc2));exact hI _ Ex;intro vv hh ee E8 Bu qq;(try simp only [C9] at E8 Bu);subst qq)))
   refine zc2 ((show ∀(hx:H) (e:Bi h hx),_ from hE) _ M0) λv1 h1 e1 l1 Aad q1=>?_
   subst q1
   repeat' (first|refine wk ?_|(refine zqq ?_ ?_<;>intro hc<;>(try (exfalso;omega)))|fail)
   exact zr Ex rfl
 . rw [decide_eq_false hv] at hI
   clear K kv hv hm
   (repeat' (first|refine wk ?_|((with_reducible (first|apply Fj|apply zc2));exact hI _ Ex;intro vv hh ee E8 Bu qq;(try simp only [C9] at E8 Bu);subst qq)))
   exact zr Ex rfl
def parts:List FuncId:=[47,48,49,50,51,52,53,54,55,56,57,58]
def RPs:Prop:=∀g∈parts,∀(ss:List Sc) (q:Qr) (vc vo vm sv:AV) (x:Nat) (a b:Sc) (cv:AV) (h:H),Qst ss q vc vo vm sv x a b cv h->SsV ss->QOk ss q->Ah h ok0 (ctx.call g [.ptr x 0] h)
def AoC (x:Nat) (p:List Nat × FuncId):List AV:=[.str p.1,.fn (.func p.2) [.ptr x 0] []]
theorem A8u {g:FuncId} (hg:g∈parts) (x:Nat) (h:H):cvV (.fn (.func g) [.ptr x 0] []) [] prog ctx h=ctx.call g [.ptr x 0] h:=by
 have hb:Bg prog g=true:=by
  have Fs:(parts.all λg=>Bg prog g)=true:=by kernel_rfl
  exact List.all_eq_true.1 Fs g hg
 rw [AeY,if_pos hb]
 rfl
def AdO:List (List Nat × FuncId):=[([115,99,104,101,109,97,115],47),([107,105,110,100],48),([116,97,98,108,101],49),([107,101,101,112],50),([106,111,105,110],51),([119,104,101,114,101],52),([101,120,112,114,101,115,115,105,111,110],53),([114,97,110,103,101],54),([99,111,108,117,109,110],55),([114,97,110,103,101,115],56),([102,97,99,116,111,114],57),([98,105,116,115],58)]
theorem A6c {i:Nat} {p:List Nat × FuncId} (h:AdO[i]?=some p):p.2∈parts:=by
 have h1:p.2∈AdO.map Prod.snd:=List.mem_map_of_mem (List.mem_of_getElem? h)
 exact h1
theorem A5I (hP:RPs ctx) (K:Qst ss q vc vo vm sv x a b cv h) (hV:SsV ss) (hQ:QOk ss q) (v:AV) (hv:R0 2 (AoC x) h v AdO):
 ∀(k:Nat) (i:Int) (n:Nat) (hd:H) (f0:L2),i+(k:Int)=12->0<=i->k<n->Ai h hd->Ah h (λr _=>r=.Bj [.int .i64 0,.str []]) (At7 ctx N n v (.int .i64 12) (.int .i64 i) f0 hd)
 |0,i,n,hd,f0,Qd,H4,hn,hg=>by
  obtain ⟨n1,rfl⟩:∃n1,n=n1+1:=⟨n - 1,by omega⟩
  have k1:decide (i<(12:Int))=false:=df
  rw [A3D]
  refine wk ?_
  exact zr hg rfl
 |k+1,i,n,hd,f0,Qd,H4,hn,hg=>by
  obtain ⟨n1,rfl⟩:∃n1,n=n1+1:=⟨n - 1,by omega⟩
  have ih:=A5I hP K hV hQ v hv k (i+1) n1
  have k1:decide (i<(12:Int))=true:=dt
  have hil:i.toNat<AdO.length:=by
   show i.toNat<12
   omega
  obtain ⟨p,hp⟩:∃x,AdO[i.toNat]?=some x:=⟨_,List.getElem?_eq_getElem hil⟩
  have hpp:=A6c hp
  obtain ⟨b1,o1,el⟩:=R0.elem (f:=AoC x) (s:=2) (λ_=>rfl) hv hp
  have x1:=el.ia
  rw [Int.toNat_of_nonneg H4] at x1
  have x2:=el.all
  have hC:=λhh (e:Ai h hh)=>hP p.2 hpp ss q vc vo vm sv x a b cv hh (K.gr e) hV hQ
  have Kf:=hg.lo
  have cvp:F5 (∀h,cvV (.fn (.func p.2) [.ptr x 0] []) [] prog ctx h=ctx.call p.2 [.ptr x 0] h):=A8u ctx hpp x
  replace hC:=(show F5 _ from hC)
  replace ih:=(show F5 _ from ih)
  obtain ⟨pn,g⟩:=p
  simp only at hC cvp
  clear el hp hpp hv K hP hil
  rw [A3D]
  repeat' (first|with_reducible (first|apply A7|apply A8|apply A9|apply Ba)|(with_reducible (first|apply Cy|apply Cz|apply C0|apply C1);(conv=>lhs;simp (disch:=first|exact dA|fail) [lw, *,k1,x1,x2,AoC]);with_reducible (first|apply A7|apply A8|apply A9|apply Ba|apply Cu|(refine Cv (by simp) ?_)|apply Cx))|(with_reducible (first|apply Kl|apply Km);(conv=>lhs;simp only [zw,k1]))|(refine zqq ?_ ?_<;>intro hc<;>(try (exfalso;omega)))|fail)
  refine gvR ?_
  rw [(show ∀h,cvV (.fn (.func g) [.ptr x 0] []) [] prog ctx h=ctx.call g [.ptr x 0] h from cvp)]
  refine Fj ((show ∀hh (e:Ai h hh),_ from hC) _ Ex) λv1 h1 e1 l1 Aad q1=>?_
  subst q1
  have g1:Ai h h1:=Ai.trans Ex e1
  clear hC
  refine wk ?_
  exact (show ∀(hd:H) (f0:L2),_ from ih) _ _ om om om g1
def R18:Prop:=∀(ss:List Sc) (q:Qr) (vc vo vm sv:AV) (h:H),SsD h sv ss->ss.length<=3->SsV ss->QV h q vc vo vm->QOk ss q->Ah h (λr _=>r=.Bj [.int .i64 0,.str []]) (ctx.call 18 [.agg (qc q vc vo vm),sv] h)
theorem AdE.qst {lo:Nat} {r:AV} {h1:H} (ho:AdE ss q vc vo vm sv lo r h1) (hs:SsD h1 sv ss) (hl:ss.length<=3) (hq:QV h1 q vc vo vm):∃x a b cv,r=.Bj [.ptr x 0,.bool true]/\lo<=x/\Qst ss q vc vo vm sv x a b cv h1:=by
 obtain ⟨x,a,b,cv,h1,h2,h3,h4,h5,h6,h7,h8⟩:=ho
 exact ⟨x,a,b,cv,h1,h2,h3,h4,h5,h6,h7,h8,hs,hl,hq.c,hq.o,hq.m⟩
theorem Aqh.has (h:Aqh ss q):(∃a∈ss,a.name=q.Uw)/\(q.Wu=[]\/∃b∈ss,b.name=q.Wu):=by
 obtain ⟨a,h1,h2,_,h3⟩:=h.tbl
 refine ⟨⟨a,h1,h2⟩,h3.imp (λh=>h.1) λ⟨b,h4,h5,_⟩=>⟨b,h4,h5⟩⟩
set_option maxHeartbeats 1000000 in
theorem r18 (hN:1000<N) (h46:R46 ctx) (hP:RPs ctx) (ss:List Sc) (q:Qr) (vc vo vm sv:AV) (h:H) (hs:SsD h sv ss) (hl:ss.length<=3) (hV:SsV ss) (hq:QV h q vc vo vm) (hQ:QOk ss q):Ah h (λr _=>r=.Bj [.int .i64 0,.str []]) (Ay prog ctx N false 18 [.agg (qc q vc vo vm),sv] h):=by
 rw [e18]
 obtain ⟨c1,c2⟩:=B2 hq.c
 obtain ⟨o1,o2⟩:=B2 hq.o
 obtain ⟨m1,m2⟩:=B2 hq.m
 have hE:=λhh (e:Bi h hh)=>h46 ss q vc vo vm sv hh (hs.By e) hl ⟨c1,c2⟩ ⟨o1,o2⟩ ⟨m1,m2⟩ hQ.pre.has.1 hQ.pre.has.2
 have go:∀(h1 h2:H) (x:Nat) (a b:Sc) (cv:AV) (f0:L2),Ai h h1->Qst ss q vc vo vm sv x a b cv h1->h2=h1.new (.cells (AdO.flatMap (AoC x)) 87 .exact)->Ah h (λr _=>r=.Bj [.int .i64 0,.str []]) (At7 ctx N N (.sl h1.nx 0 12 12 2 true) (.int .i64 12) (.int .i64 0) f0 h2):=by
  intro h1 h2 x a b cv f0 g K he
  subst he
  have g1:=(Ai.refl h1).new (.cells (AdO.flatMap (AoC x)) 87 .exact)
  exact Ah.of (g.trans g1) (A5I ctx N hP (K.gr g1) hV hQ _ (Sl.lit (Bf _) rfl rfl) 12 0 N _ f0 rfl om om (Ai.refl _))
 have hK:=λ(h1:H) (e:Ai h h1) (lo:Nat) (r:AV) ho=>AdE.qst (lo:=lo) (r:=r) ho (hs.By e.keeps) hl (hq.By e.keeps)
 replace hE:=(show F5 _ from hE)
 replace go:=(show F5 _ from go)
 replace hK:=(show F5 _ from hK)
 clear hs hq hQ hP h46 hV
 obtain ⟨c0,code,d2,d3,c4,c5,s6,c7,ord,c9,Wz,Uw,W0,Yc,Sk,Uo,U3,E9,Oi,Mg⟩:=q
 refine wk ?_
 refine Fj ((show ∀hh (e:Bi h hh),_ from hE) _ M0) λv1 h1 e1 l1 Aad q1=>?_
 have g1:Ai h h1:=Ai.trans Ex e1
 obtain ⟨x,a,b,cv,rfl,hx,K⟩:=(show ∀(h1:H) (e:Ai h h1) (lo:Nat) (r:AV) (ho:AdE ss _ vc vo vm sv lo r h1),_ from hK) h1 g1 _ _ q1
 have hg:=λh2 f he=>(show ∀(h1 h2:H) (x:Nat) (a b:Sc) (cv:AV) (f0:L2),Ai h h1->Qst ss _ vc vo vm sv x a b cv h1->h2=h1.new (.cells (AdO.flatMap (AoC x)) 87 .exact)->_ from go) h1 h2 x a b cv f g1 K he
 replace hg:=(show F5 _ from hg)
 clear hK go hE K e1 l1 Aad q1
 refine wk ?_
 exact (show ∀(h2:H) (f:L2) (he:h2=h1.new (.cells (AdO.flatMap (AoC x)) 87 .exact)),_ from hg) _ _ rfl
end Go.Proofs
