/- Values: a row of values that numbers select. -/
import Derived.Test.YtecikbfimlolcaaGreatDoorEvKi
set_option linter.all false
set_option maxRecDepth 100000
noncomputable section
namespace Go.Proofs
open Go Go.Ev Go.Nm Tryz Go.Ev.Sx
attribute [local irreducible] Aa Al Af Ad
variable (ctx:Ac) (N:Nat)
structure CsK (h:H) (cv:AV) (A1:List Cl):Prop where
 r:CsR h cv A1
 w:∀c∈A1,c.ws≠[]->Ig h c.w c.ws
theorem CsK.By {h h1:H} {cv:AV} {A1:List Cl} (hc:CsK h cv A1) (e:Bi h h1):CsK h1 cv A1:=⟨hc.r.By e,λc hh hw=>Sl.By (hc.w c hh hw) e⟩
theorem Fm.same {s lo len:Nat} {et:TypeId} {h h1:H} {v:AV} {c:List AV} (ho:Fm s lo et h v len c) (hl:len≠0) (hn:h.nx<=h1.nx) (hs:∀b,lo<=b->b<h.nx->h1.m.get b=h.m.get b):Fm s lo et h1 v len c:=by
 rcases ho with ⟨h0,_⟩|⟨h0,_⟩|⟨b,k,st,W2,q2,q3,q4,q5,q6,q7,q8⟩
 . exact absurd h0 hl
 . exact absurd h0 hl
 . exact .inr (.inr ⟨b,k,st,W2,(hs b q4 q6).trans q2,(hs k q5 q7).trans q3,q4,q5,Nat.lt_of_lt_of_le q6 hn,Nat.lt_of_lt_of_le q7 hn,q8⟩)
theorem BfK (h:H):Aj prog .eql 94 true .Bv .Bv h=.ok (.bool true) h:=by kernel_rfl
theorem BfM (b o l c s:Nat) (ex:Bool) (h:H):Aj prog .eql 94 true (.sl b o l c s ex) .Bv h=.ok (.bool false) h:=by kernel_rfl
theorem BfL (b o l c s:Nat) (ex:Bool) (h:H):Aj prog .eql 48 true (.sl b o l c s ex) .Bv h=.ok (.bool false) h:=by kernel_rfl
def AtD (ws:List (List Nat)) (lo:Nat) (r:AV) (h1:H):Prop:=(Ge r=true/\cellsOf r=some [r])/\(ws≠[]->Fm 1 lo 9 h1 r ws.length (ws.flatMap Aeb))
def R96:Prop:=∀(ws:List (List Nat)) (v:AV) (h:H),Ig h v ws->ws.length<=1000->Ah h (AtD ws h.nx) (ctx.call 96 [v] h)
theorem r96 (ws:List (List Nat)) (v:AV) (h:H) (hv:Ig h v ws) (hl:ws.length<=1000):Ah h (AtD ws h.nx) (Ay prog ctx N true 96 [v] h):=by
 rw [e96]
 rcases hv with ⟨h1,h2,rfl⟩|⟨b,off,cap,ex,cs,rfl,h2⟩
 . refine Ey (BfK h) (Zx ?_)
   refine Lo (Ai.refl h) ⟨⟨rfl,rfl⟩,λhh=>absurd (List.length_eq_zero_iff.1 h1) hh⟩
 . obtain ⟨w,h',q1,q2,q3⟩:=cp (bytes:=16) (et:=9) (lo:=h.nx) om (show Ig h _ ws from .inr ⟨b,off,cap,ex,cs,rfl,h2⟩) (Ama ws) (Nat.le_refl _)
   refine Ey (BfM ..) (Ae5 ?_)
   refine Ey (v:=.sl h.nx 0 0 0 1 true) (h:=h.new (.cells [] 9 .exact)) rfl ?_
   exact Ey q1 (Lo q2 ⟨B2 q3.sl,λ_=>q3⟩)
def R95:Prop:=∀(l:List Cl) (v:AV) (h:H),CsR h v l->l≠[]->Ah h (λr h1=>Fm 4 h.nx 96 h1 r l.length (l.flatMap Hx)) (ctx.call 95 [v] h)
theorem r95 (l:List Cl) (v:AV) (h:H) (hv:CsR h v l) (Hr:l≠[]):Ah h (λr h1=>Fm 4 h.nx 96 h1 r l.length (l.flatMap Hx)) (Ay prog ctx N true 95 [v] h):=by
 rw [e95]
 have hf:=hv.Mu
 obtain ⟨w,h',q1,q2,q3⟩:=cp (bytes:=56) (et:=96) (lo:=h.nx) om hv.sl (AjN hv.one) (Nat.le_refl _)
 rcases hv.sl with ⟨h1,_⟩|⟨b,off,cap,ex,cs,rfl,h2⟩
 . exact absurd (List.length_eq_zero_iff.1 h1) Hr
 . refine Ey (BfL ..) (Ae5 ?_)
   refine Ey (v:=.sl h.nx 0 0 0 4 true) (h:=h.new (.cells [] 96 .exact)) rfl ?_
   exact Ey q1 (Lo q2 q3)
theorem A0S {h:H} {b k o n:Nat} {cs:List AV} {et:TypeId} {w:AV} (hg:h.m.get b=.cells cs et (.Gt k)) (hc:h.m.get k=.Fb n) (ho:o<cs.length) (hw:Ge w=true/\cellsOf w=some [w]):A4 1 (.ptr b o) w h=.ok (.Bj []) ((h.put b (.cells (cs.set o w) et (.Gt k))).put k (.Fb (n+1))):=by
 have h1:o+1<=cs.length:=ho
 rw [List.set_eq_take_append_cons_drop,if_pos ho]
 simp [hg,hc,Kh,h1,hw.1,hw.2]
theorem AvV:∀{l:List Cl} {i:Nat} {c:Cl} (w:AV),l[i]?=some c->(l.flatMap Hx).set (4 * i+3) w=(l.set i { c with w:=w }).flatMap Hx
 |[],i,c,w,h=>by cases h
 |d::l,0,c,w,h=>by
  obtain rfl:d=c:=by simpa using h
  rfl
 |d::l,i+1,c,w,h=>by
  have ih:=AvV (l:=l) (i:=i) (c:=c) w (by simpa using h)
  rw [show 4 * (i+1)+3=(4 * i+3)+1+1+1+1 by omega]
  simp [ih]
structure CpB (h0:H) (bx b2 bc k lo:Nat):Prop where
 p1:h0.nx<=bx
 p2:h0.nx<=b2
 p3:h0.nx<=bc
 p4:h0.nx<=k
 l1:bx<lo
 l2:b2<lo
 l3:bc<lo
 l4:k<lo
 n1:bx≠bc
 n2:bx≠k
 n3:b2≠bc
 n4:b2≠k
 n5:bc≠k
structure CpI (h0:H) (A1:List Cl) (bx b2 bc k lo:Nat) (h:H) (i:Nat) (m:List Cl):Prop where
 g:Ai h0 h
 Kf:lo<=h.nx
 box:h.m.get bx=.cells [.str [],.bool false,.int .i64 0,.sl bc 0 A1.length A1.length 4 false] 73 .exact
 BeX:h.m.get b2=.cells [.str [],.bool false,.int .i64 0,.Bv] 73 .exact
 arr:h.m.get bc=.cells (m.flatMap Hx) 96 (.Gt k)
 Fb:∃n,h.m.get k=.Fb n
 Px:m.map Px=A1.map Px
 new:∀j c,j<i->m[j]?=some c->AtD c.ws lo c.w h
 Cf:∀j,i<=j->m[j]?=A1[j]?
variable {h0 h h1:H} {A1 m:List Cl} {bx b2 bc k lo i:Nat}
theorem CpI.len (K:CpI h0 A1 bx b2 bc k lo h i m):m.length=A1.length:=by
 have:=congrArg List.length K.Px
 simpa using this
theorem CpI.slf (B:CpB h0 bx b2 bc k lo) (K:CpI h0 A1 bx b2 bc k lo h i m):R0 4 Hx h (.sl bc 0 A1.length A1.length 4 false) m:=by
 have hl:=K.len
 have Kf:=K.Kf
 have h1:=B.l3
 show Sl 4 h _ m.length _
 rw [<- hl]
 have e:(m.flatMap Hx).length=m.length * 4:=Aa9 (f:=Hx) (s:=4) (λ_=>rfl) m
 exact .inr ⟨bc,0,m.length,false,_,rfl,Nat.le_refl _,⟨by omega,_,_,K.arr,trivial⟩,by omega,by rw [List.drop_zero,List.take_of_length_le om]⟩
theorem CpI.next (B:CpB h0 bx b2 bc k lo) (K:CpI h0 A1 bx b2 bc k lo h i m) {c:Cl} (hc:m[i]?=some c) {h9 hz:H} {w:AV} {n:Nat} (g9:Ai h h9) (hw:AtD c.ws h.nx w h9) (gz:Ai h0 hz) (nz:hz.nx=h9.nx) (z1:hz.m.get bc=.cells ((m.flatMap Hx).set (4 * i+3) w) 96 (.Gt k)) (z2:hz.m.get k=.Fb n) (z3:∀b,b≠bc->b≠k->hz.m.get b=h9.m.get b):CpI h0 A1 bx b2 bc k lo hz (i+1) (m.set i { c with w:=w }):=by
 have Kf:=K.Kf
 have l9:=g9.lo
 have hi:=(List.getElem?_eq_some_iff.1 hc).1
 have same:∀{ws:List (List Nat)} {v:AV},AtD ws lo v h9->AtD ws lo v hz:=λ{ws v} q=>⟨q.1,λHr=>Fm.same (q.2 Hr) (λhh=>Hr (List.length_eq_zero_iff.1 hh)) om λb h1 h2=>z3 b (by have:=B.l3;omega) (by have:=B.l4;omega)⟩
 have b1:=B.l1
 have b2':=B.l2
 refine ⟨gz,by omega,?_,?_,?_,⟨n,z2⟩,?_,?_,?_⟩
 . rw [z3 bx B.n1 B.n2,g9.Cf bx om];exact K.box
 . rw [z3 b2 B.n3 B.n4,g9.Cf b2 om];exact K.BeX
 . rw [z1,AvV w hc]
 . rw [List.map_set,K.Px.symm]
   apply List.ext_getElem?
   intro j
   rw [List.getElem?_set]
   split
   . rename_i hj
     subst hj
     rw [List.getElem?_map,hc]
     simp [hi,Go.Proofs.Px]
   . rfl
 . intro j d hj hd
   rw [List.getElem?_set] at hd
   split at hd
   . rename_i hij
     subst hij
     obtain rfl:=Option.some.inj hd
     exact same ⟨hw.1,λHr=>(hw.2 Hr).one Kf⟩
   . have q:=K.new j d om hd
     exact same ⟨q.1,λHr=>(q.2 Hr).gr g9⟩
 . intro j hj
   rw [List.getElem?_set,if_neg om]
   exact K.Cf j om
theorem CpI.csk (B:CpB h0 bx b2 bc k lo) (K:CpI h0 A1 bx b2 bc k lo h A1.length m) (hf:A1.length<=50) {hz:H} (nz:h.nx<=hz.nx) (z:∀b,b≠b2->hz.m.get b=h.m.get b):CsK hz (.sl bc 0 A1.length A1.length 4 false) m:=by
 have hl:=K.len
 have Kf:=K.Kf
 have h1:=B.l3
 have h2:=B.l2
 have sl:R0 4 Hx hz (.sl bc 0 A1.length A1.length 4 false) m:=by
  show Sl 4 hz _ m.length _
  rw [<- hl]
  have e:(m.flatMap Hx).length=m.length * 4:=Aa9 (f:=Hx) (s:=4) (λ_=>rfl) m
  exact .inr ⟨bc,0,m.length,false,_,rfl,Nat.le_refl _,⟨by omega,_,_,(z bc B.n3.symm).trans K.arr,trivial⟩,by omega,by rw [List.drop_zero,List.take_of_length_le om]⟩
 refine ⟨⟨sl,λc hc=>?_,by omega⟩,λc hc Hr=>?_⟩
 all_goals
  obtain ⟨j,hj⟩:=List.getElem?_of_mem hc
  have q:=K.new j c (by have:=(List.getElem?_eq_some_iff.1 hj).1;omega) hj
 . exact q.1
 . exact (Fm.same (q.2 Hr) (λhh=>Hr (List.length_eq_zero_iff.1 hh)) nz λb h3 h4=>z b om).sl
def KzV (h:H) (v:AV):Prop:=∀b off len cap z ex,v=.sl b off len cap z ex->b<h.nx/\∀k,B5 (h.m.get b)=some k->k<h.nx
def Aty (A1:List Cl) (r:AV) (h1:H):Prop:=∃v m,r=.agg [.str [],.bool false,.int .i64 0,v]/\m.map Px=A1.map Px/\CsK h1 v m/\KzV h1 v
structure CsW (h:H) (cv:AV) (A1:List Cl):Prop where
 r:CsR h cv A1
 w:∀c∈A1,Ig h c.w c.ws/\c.ws.length<=1000
set_option maxHeartbeats 1000000 in
theorem A5N (h96:R96 ctx) (B:CpB h0 bx b2 bc k lo) (hf:A1.length<=50) (hw:∀c∈A1,Ig h0 c.w c.ws/\c.ws.length<=1000):
 ∀(u i:Nat) (ii:Int) (n:Nat) (hd:H) (m:List Cl) (f0:L2),i+u=A1.length->ii=(i:Int)->u<n->CpI h0 A1 bx b2 bc k lo hd i m->Ah h0 (Aty A1) (AyC ctx N n (.ptr bx 0) (.ptr b2 0) (.int .i64 (A1.length:Int)) (.int .i64 ii) f0 hd)
 |0,i,ii,n,hd,m,f0,Qd,hii,hn,K=>by
  obtain ⟨n1,rfl⟩:∃n1,n=n1+1:=⟨n - 1,by omega⟩
  have k1:decide (ii<(A1.length:Int))=false:=df
  obtain rfl:i=A1.length:=by omega
  have gb:=K.box
  have gb2:=K.BeX
  have g:=K.g
  have p2:=B.p2
  have Kf:=K.Kf
  have G8:=B.l2
  have fin:∀o,Aty A1 (.agg [.str [],.bool false,.int .i64 0,.sl bc 0 A1.length A1.length 4 false]) (hd.put b2 o):=λo=>⟨_,m,rfl,K.Px,K.csk B hf (Nat.le_refl _) λb hb=>Aq _ _ _ hb,λb off len cap z ex hv=>by
   cases hv
   have h3:=B.l3
   have h4:=B.l4
   refine ⟨show bc<hd.nx by omega,λk' hk=>?_⟩
   rw [Aq _ _ _ B.n3.symm,K.arr] at hk
   obtain rfl:k=k':=Option.some.inj hk
   show k<hd.nx
   omega⟩
  replace fin:=(show F5 _ from fin)
  clear K B hw hii Qd
  rw [A4b]
  refine wk ?_
  exact zr Ex ((show ∀o,_ from fin) _)
 |u+1,i,ii,n,hd,m,f0,Qd,hii,hn,K=>by
  obtain ⟨n1,rfl⟩:∃n1,n=n1+1:=⟨n - 1,by omega⟩
  have ih:=A5N h96 B hf hw u (i+1) (ii+1) n1
  have k1:decide (ii<(A1.length:Int))=true:=dt
  have hlen:=K.len
  obtain ⟨c,hc⟩:∃x,m[i]?=some x:=⟨_,List.getElem?_eq_getElem om⟩
  have O0:A1[i]?=some c:=by rw [<- K.Cf i (Nat.le_refl _)];exact hc
  obtain ⟨hcw,Ox⟩:=hw c (List.mem_of_getElem? O0)
  have gb:=K.box
  have g:=K.g
  have hE:=λhh (e:Bi hd hh)=>h96 c.ws c.w hh (Sl.By hcw (g.keeps.trans e)) Ox
  obtain ⟨b1,o1,el⟩:=R0.elem (f:=Hx) (s:=4) (λ_=>rfl) (K.slf B) hc
  have x1:=el.ia
  rw [<- hii] at x1
  have x3:=el.part 3 _ rfl
  have ho:∀hh,Gc 4 (.sl bc 0 A1.length A1.length 4 false) (.int .i64 (i:Int)) hh=.ok (.ptr bc (4 * i)) hh:=λhh=>by
   rw [Agr 4 bc 0 A1.length A1.length 4 false i om]
   simp [Nat.mul_comm]
  rw [<- hii] at ho
  obtain ⟨e1,e2⟩:bc=b1/\o1=4 * i:=by
   have:=(x1 hd).symm.trans (ho hd)
   injection this with t1 t2
   injection t1 with t3 t4
   exact ⟨t3.symm,t4⟩
  subst e1 e2
  obtain ⟨nn,hct⟩:=K.Fb
  have Ayv:=K.arr
  have Kf:=K.Kf
  have l1:=B.l1
  have l3:=B.l3
  have l4:=B.l4
  have p3:=B.p3
  have p4:=B.p4
  have n1':=B.n1
  have n5:=B.n5
  have hil:=(List.getElem?_eq_some_iff.1 hc).1
  have A8O:4 * i+3<(m.flatMap Hx).length:=by rw [Aa9 (f:=Hx) (s:=4) (λ_=>rfl) m];omega
  have hnx:=λ{h9 hz:H} {w:AV} {n:Nat} (g9:Ai hd h9) hw gz nz z1 z2 z3=>K.next B hc (h9:=h9) (hz:=hz) (w:=w) (n:=n) g9 hw gz nz z1 z2 z3
  have hb':bx<hd.nx:=by omega
  have hr1:0<=ii:=by omega
  have hr2:ii<=50:=by omega
  have go:=λhz m' f=>ih hz m' f om om om
  replace go:=(show F5 _ from go)
  replace hE:=(show F5 _ from hE)
  replace hnx:=(show F5 (∀{h9 hz:H} {w:AV} {n:Nat},Ai hd h9->AtD c.ws hd.nx w h9->Ai h0 hz->hz.nx=h9.nx->hz.m.get bc=.cells ((m.flatMap Hx).set (4 * i+3) w) 96 (.Gt k)->hz.m.get k=.Fb n->(∀b,b≠bc->b≠k->hz.m.get b=h9.m.get b)->CpI h0 A1 bx b2 bc k lo hz (i+1) (m.set i { c with w:=w })) from hnx)
  clear K B hc O0 hcw el ih hw hii Qd hlen Ox
  rw [A4b]
  refine wk ?_
  refine Fj ((show ∀hh (e:Bi hd hh),_ from hE) _ M0) λw9 h9 e9 l9 A0Q q9=>?_
  have eqt:=Ai.quiet e9
  have g9:Ai hd h9:=e9.Rc.Rc
  try simp only [C9] at l9 A0Q eqt
  have a9:=(A0Q bc om).trans Ayv
  have c9:=(A0Q k om).trans hct
  have Vt:=A0S (h:=Ab h9) (o:=4 * i+3) a9 c9 A8O q9.1
  clear hE
  refine wd ?_
  have gz0:Ai h0 (Be (k::bc::hd.lg) (((Ab h9).put bc (.cells ((m.flatMap Hx).set (4 * i+3) w9) 96 (.Gt k))).put k (.Fb (nn+1)))):=Ex
  generalize hE:Be (k::bc::hd.lg) _=hz at gz0 ⊢
  have nz:hz.nx=h9.nx:=by rw [<- hE];rfl
  have z1:hz.m.get bc=.cells ((m.flatMap Hx).set (4 * i+3) w9) 96 (.Gt k):=by
   rw [<- hE]
   exact (Aq _ _ _ n5).trans (A2 ..)
  have z2:hz.m.get k=.Fb (nn+1):=by
   rw [<- hE]
   exact A2 ..
  have z3:∀b,b≠bc->b≠k->hz.m.get b=h9.m.get b:=by
   intro b y1 y2
   rw [<- hE]
   exact (Aq _ _ _ y2).trans (Aq _ _ _ y1)
  have K2:=(show ∀{h9 hz:H} {w:AV} {n:Nat},Ai hd h9->AtD c.ws hd.nx w h9->Ai h0 hz->hz.nx=h9.nx->hz.m.get bc=.cells ((m.flatMap Hx).set (4 * i+3) w) 96 (.Gt k)->hz.m.get k=.Fb n->(∀b,b≠bc->b≠k->hz.m.get b=h9.m.get b)->CpI h0 A1 bx b2 bc k lo hz (i+1) (m.set i { c with w:=w }) from hnx) g9 q9 gz0 nz z1 z2 z3
  clear hE z1 z2 z3 Vt eqt a9 c9
  exact (show ∀hz m' f,CpI h0 A1 bx b2 bc k lo hz (i+1) m'->_ from go) _ _ _ K2
def R60:Prop:=∀(A1:List Cl) (v:AV) (h:H),CsW h v A1->A1≠[]->Ah h (Aty A1) (ctx.call 60 [.agg [.str [],.bool false,.int .i64 0,v]] h)
set_option maxHeartbeats 1000000 in
theorem r60 (hN:100<N) (h95:R95 ctx) (h96:R96 ctx) (A1:List Cl) (v:AV) (h:H) (hv:CsW h v A1) (Hr:A1≠[]):Ah h (Aty A1) (Ay prog ctx N false 60 [.agg [.str [],.bool false,.int .i64 0,v]] h):=by
 rw [e60]
 obtain ⟨o1,o2⟩:=B2 hv.r.sl
 have hf:=hv.r.Mu
 have hE:=λhh (e:Bi h hh)=>h95 A1 v hh (hv.r.By e) Hr
 replace h96:=(show F5 _ from h96)
 have hw:=hv.w
 have hp:0<A1.length:=List.length_pos_iff.2 Hr
 replace hE:=(show F5 _ from hE)
 replace hw:=(show F5 _ from hw)
 clear hv h95 Hr
 refine wk ?_
 refine Fj ((show ∀hh (e:Bi h hh),_ from hE) _ M0) λw h5 e5 l5 Az4 q5=>?_
 have g5:Ai h h5:=Ai.trans Ex e5
 simp only [C9] at l5 Az4
 rcases q5 with ⟨q1,_⟩|⟨q1,_⟩|⟨bc,k,st,rfl,q2,q3,q4,q5,q6,q7,q8,q9⟩
 . omega
 . omega
 simp only [C9] at q4 q5
 have gb:=(Az4 h.nx om).trans ((Cq (h:=h.new _) _ h.nx (by show h.nx≠h.nx+1;omega)).trans (Bf _))
 have gb2:=(Az4 (h.nx+1) om).trans (Bf (h:=h.new _) _)
 clear hE Az4 e5
 refine wk ?_
 refine A5N ctx N (show R96 ctx from h96) (h0:=h) (A1:=A1) (bx:=h.nx) (b2:=h.nx+1) (bc:=bc) (k:=k) (lo:=h5.nx) ⟨Nat.le_refl _,by omega,by omega,by omega,by omega,by omega,by omega,by omega,by omega,by omega,by omega,by omega,q8⟩ hf (show ∀c∈A1,Ig h c.w c.ws/\c.ws.length<=1000 from hw) A1.length 0 0 N _ A1 _ om rfl om ⟨Ex,Nat.le_refl _,A2 ..,?_,?_,⟨st,?_⟩,rfl,λj c hj=>absurd hj (Nat.not_lt_zero _),λj _=>rfl⟩
 . exact (Aq _ _ _ om).trans gb2
 . exact (Aq _ _ _ om).trans q2
 . exact (Aq _ _ _ om).trans q3
def A30 (ss:List Sc) (q:Qr) (r:AV) (h1:H):Prop:=∃m,m.map Px=(AaF ss q).map Px/\CsK h1 r m/\KzV h1 r
def R19:Prop:=∀(ss:List Sc) (q:Qr) (vc vo vm sv:AV) (h:H),SsD h sv ss->ss.length<=3->SsV ss->QV h q vc vo vm->QOk ss q->Ah h (A30 ss q) (ctx.call 19 [.agg (qc q vc vo vm),sv] h)
set_option maxHeartbeats 1000000 in
theorem r19 (h46:R46 ctx) (h59:R59 ctx) (h60:R60 ctx) (ss:List Sc) (q:Qr) (vc vo vm sv:AV) (h:H) (hs:SsD h sv ss) (hl:ss.length<=3) (hV:SsV ss) (hq:QV h q vc vo vm) (hQ:QOk ss q):Ah h (A30 ss q) (Ay prog ctx N false 19 [.agg (qc q vc vo vm),sv] h):=by
 rw [e19]
 obtain ⟨c1,c2⟩:=B2 hq.c
 obtain ⟨o1,o2⟩:=B2 hq.o
 obtain ⟨m1,m2⟩:=B2 hq.m
 have hE:=λhh (e:Bi h hh)=>h46 ss q vc vo vm sv hh (hs.By e) hl ⟨c1,c2⟩ ⟨o1,o2⟩ ⟨m1,m2⟩ hQ.pre.has.1 hQ.pre.has.2
 have hA:=λhh (e:Bi h hh)=>h59 sv ss hh (hs.By e) hl
 have hK:=λ(h1:H) (e:Ai h h1) (lo:Nat) (r:AV) ho=>AdE.qst (lo:=lo) (r:=r) ho (hs.By e.keeps) hl (hq.By e.keeps)
 have hC:∀(x:Nat) (a b:Sc) (cv:AV) (h1:H),Qst ss q vc vo vm sv x a b cv h1->(∀hh,Bi h1 hh->Ah hh (Aty (AaF ss q)) (ctx.call 60 [.agg [.str [],.bool false,.int .i64 0,cv]] hh))/\(Ge cv=true/\cellsOf cv=some [cv])/\x<h1.nx/\h1.m.get x=.cells (qsC q vc vo vm sv a b cv) 93 .exact:=by
  intro x a b cv h1 K
  refine ⟨λhh e=>h60 (AaF ss q) cv hh ?_ ?_,B2 K.cs.sl,K.lt,K.get⟩
  . rw [<- K.A1]
    refine ⟨K.cs.By e,λc hc=>?_⟩
    obtain ⟨s,hs2,X3⟩:=K.Zn hc
    have h3:=(K.sd.d s hs2).cs
    have h4:=(h3.ok c X3).2.Mu
    exact ⟨Sl.By (h3.w c X3) e,by omega⟩
  . rw [<- K.A1]
    have:=(K.sd.d a K.ha).ne
    simp [this]
 replace hE:=(show F5 _ from hE)
 replace hA:=(show F5 _ from hA)
 replace hK:=(show F5 _ from hK)
 replace hC:=(show F5 _ from hC)
 clear hs hq hQ h46 hV h59 h60
 obtain ⟨c0,code,d2,d3,c4,c5,s6,c7,ord,c9,Wz,Uw,W0,Yc,Sk,Uo,U3,E9,Oi,Mg⟩:=q
 refine wk ?_
 refine Fj ((show ∀hh (e:Bi h hh),_ from hA) _ M0) λv1 h1 e1 l1 Aad q1=>?_
 obtain rfl:v1=_:=q1
 simp only [C9] at l1 Aad
 have g1:=(Aad h.nx om).trans (Bf _)
 refine wk ?_
 refine Fj ((show ∀hh (e:Bi h hh),_ from hE) _ M0) λv2 h2 e2 l2 Aae q2=>?_
 have g2:Ai h h2:=Ai.trans Ex e2
 obtain ⟨x,a,b,cv,rfl,hx,K⟩:=(show ∀(h1:H) (e:Ai h h1) (lo:Nat) (r:AV) (ho:AdE ss _ vc vo vm sv lo r h1),_ from hK) h2 g2 _ _ q2
 obtain ⟨hc,⟨y1,y2⟩,y3,y4⟩:=(show ∀(x:Nat) (a b:Sc) (cv:AV) (h1:H),Qst ss _ vc vo vm sv x a b cv h1->_ from hC) x a b cv h2 K
 replace hc:=(show F5 _ from hc)
 clear hK hC hE hA K q2 e1 e2 Aad Aae
 refine wk ?_
 refine Fj ((show ∀hh,Bi h2 hh->Ah hh _ (ctx.call 60 [.agg [.str [],.bool false,.int .i64 0,cv]] hh) from hc) _ M0) λv3 h3 e3 l3 Ary q3=>?_
 obtain ⟨v,m,rfl,p1,p2,p3⟩:=q3
 obtain ⟨w1,w2⟩:=B2 p2.r.sl
 refine Ey (v:=v) (h:=h3) rfl ?_
 exact zr Ex ⟨m,p1,p2,p3⟩
end Go.Proofs
namespace Go.Proofs
open Go Go.Ev Go.Nm Tryz Go.Ev.Sx
attribute [local irreducible] Aa Al Af Ad
variable (ctx:Ac) (N:Nat)
abbrev Big (n:Int):Prop:=-1000000000000000<=n/\n<=1000000000000000
theorem A6p {P:Program} {h:H} (t:TypeId) (c:Bool) (a b:Int) (hb:b≠0):Aj P .quo t c (.int .i64 a) (.int .i64 b) h=.ok (.int .i64 (E1 .i64 (Int.tdiv a b))) h:=by
 have e:ieq b 0=false:=by rw [X7];exact decide_eq_false hb
 show (Bool.rec (motive:=λ_=>OR) (.bad 30) ((Bool.rec (motive:=λ_=>OR) (.ok (.int .i64 (E1 .i64 (Int.tdiv a b))) h) (.bad 31) (ieq b 0))) (kEq .i64 .i64):OR)=_
 rw [e]
 rfl
theorem ArB {h:H} (p q:Bool):Aj prog .eql 4 false (.bool p) (.bool q) h=.ok (.bool (p == q)) h:=by cases p<;>cases q<;>kernel_rfl
def mag (n:Int):Int:=if n<0 - n then 0 - n else n
theorem A0b {n:Int} (h:n≠0):0<mag n:=by unfold mag;split<;>omega
theorem A9U (a b:Int):mag a * mag b=a * b\/mag a * mag b=-(a * b):=by
 unfold mag
 split<;>split
 . left;rw [Int.zero_sub,Int.zero_sub,Int.neg_mul_neg]
 . right;rw [Int.zero_sub,Int.neg_mul]
 . right;rw [Int.zero_sub,Int.mul_neg]
 . left;rfl
theorem Bah {a b:Int} (ha:a≠0) (hb:b≠0):(decide (a<0)=decide (b<0)->0<a * b)/\(decide (a<0)≠decide (b<0)->a * b<0):=by
 by_cases h1:a<0<;>by_cases h2:b<0
 . exact ⟨λ_=>Int.mul_pos_of_neg_of_neg h1 h2,λh=>by simp [h1,h2] at h⟩
 . exact ⟨λh=>by simp [h1,h2] at h,λ_=>Int.mul_neg_of_neg_of_pos h1 om⟩
 . exact ⟨λh=>by simp [h1,h2] at h,λ_=>Int.mul_neg_of_pos_of_neg om h2⟩
 . exact ⟨λ_=>Int.mul_pos om om,λh=>by simp [h1,h2] at h⟩
theorem A9S {a b:Int} (hb:b≠0):(Int.tdiv 1000000000000000 (mag b)<mag a->1000000000000000<mag a * mag b)/\(mag a<=Int.tdiv 1000000000000000 (mag b)->mag a * mag b<=1000000000000000):=by
 have hp:=A0b hb
 rw [Int.tdiv_eq_ediv_of_nonneg (by decide)]
 constructor
 . intro h
   have:=(Int.ediv_lt_iff_lt_mul hp).1 h
   exact this
 . intro h
   exact (Int.le_ediv_iff_mul_le hp).1 h
def R98:Prop:=∀(a b:Int) (h:H),Big a->Big b->Ah h (λr _=>r=.int .i64 (Abb (a * b))) (ctx.call 98 [.int .i64 a,.int .i64 b] h)
theorem r98 (a b:Int) (h:H) (ha:Big a) (hb:Big b):Ah h (λr _=>r=.int .i64 (Abb (a * b))) (Ay prog ctx N true 98 [.int .i64 a,.int .i64 b] h):=by
 rw [e98]
 obtain ⟨a1,a2⟩:=ha
 obtain ⟨b1,b2⟩:=hb
 by_cases k1:a=0
 . have k2:decide (a=0)=true:=decide_eq_true k1
   refine wk ?_
   exact zr Ex (by rw [k1,Int.zero_mul];rfl)
 . have k2:decide (a=0)=false:=decide_eq_false k1
   by_cases k3:b=0
   . have k4:decide (b=0)=true:=decide_eq_true k3
     refine wk ?_
     exact zr Ex (by rw [k3,Int.mul_zero];rfl)
   . have k4:decide (b=0)=false:=decide_eq_false k3
     obtain ⟨d1,d2⟩:=A9S (a:=a) k3
     obtain ⟨s1,s2⟩:=Bah k1 k3
     have hm:=A9U a b
     have Zo:0<=mag a * mag b:=Int.mul_nonneg (by unfold mag;split<;>omega) (by unfold mag;split<;>omega)
     have hp:=A0b k3
     have BcQ:mag b≠0:=by omega
     have xa:∀hh:H,mm false [.int .i64 a,.int .i64 (-a)] hh=.ok (.int .i64 (mag a)) hh:=λhh=>by rw [AoA,mag,Int.zero_sub]
     have xb:∀hh:H,mm false [.int .i64 b,.int .i64 (-b)] hh=.ok (.int .i64 (mag b)) hh:=λhh=>by rw [AoA,mag,Int.zero_sub]
     have hq0:0<=Int.tdiv 1000000000000000 (mag b):=Int.tdiv_nonneg (by decide) om
     have hq1:Int.tdiv 1000000000000000 (mag b)<=1000000000000000:=by
      rw [Int.tdiv_eq_ediv_of_nonneg (by decide)]
      exact Int.ediv_le_self _ (by decide)
     have xq:∀hh:H,Aj prog .quo 3 true (.int .i64 1000000000000000) (.int .i64 (mag b)) hh=.ok (.int .i64 (Int.tdiv 1000000000000000 (mag b))) hh:=λhh=>by
      rw [A6p 3 true _ _ BcQ,lw.2.2 _ om om]
     have xm:∀hh:H,-1000000000000000<=a * b->a * b<=1000000000000000->Aj prog .mul 3 false (.int .i64 a) (.int .i64 b) hh=.ok (.int .i64 (a * b)) hh:=λhh y1 y2=>by
      rw [A50,lw.2.2 _ om om]
     have n1:∀hh:H,Qe .neg (.int .i64 a) hh=.ok (.int .i64 (-a)) hh:=λhh=>by
      rw [A6M,lw.2.2 _ om om,Int.zero_sub]
     have n2:∀hh:H,Qe .neg (.int .i64 b) hh=.ok (.int .i64 (-b)) hh:=λhh=>by
      rw [A6M,lw.2.2 _ om om,Int.zero_sub]
     generalize Int.tdiv 1000000000000000 (mag b)=qt at d1 d2 hq0 hq1 xq
     generalize mag a=ma at d1 d2 hm Zo xa
     generalize mag b=mb at d1 d2 hm Zo xb xq hp BcQ
     clear hp BcQ k1 k3 hq0 hq1 a1 a2 b1 b2
     by_cases k5:qt<ma
     . have k6:decide (qt<ma)=true:=decide_eq_true k5
       have:=d1 k5
       by_cases k7:decide (a<0)=decide (b<0)
       . have AhE:=s1 k7
         have Ac9:Abb (a * b)=1000000000000000:=by
          unfold Abb
          rw [if_pos om]
         rw [Ac9]
         have xe:∀hh:H,Aj prog .eql 4 false (.bool (decide (a<0))) (.bool (decide (b<0))) hh=.ok (.bool true) hh:=λhh=>by rw [ArB,k7];simp
         clear d1 d2 s1 s2 hm Zo this AhE xm Ac9 k7
         refine wk ?_
         exact zr Ex rfl
       . have Bk2:=s2 k7
         have Ac9:Abb (a * b)=-1000000000000000:=by
          unfold Abb
          rw [if_neg om,if_pos om]
         rw [Ac9]
         have xe:∀hh:H,Aj prog .eql 4 false (.bool (decide (a<0))) (.bool (decide (b<0))) hh=.ok (.bool false) hh:=λhh=>by rw [ArB,beq_eq_false_iff_ne.2 k7]
         clear d1 d2 s1 s2 hm Zo this Bk2 xm Ac9 k7
         refine wk ?_
         exact zr Ex rfl
     . have k6:decide (qt<ma)=false:=decide_eq_false k5
       have:=d2 om
       have y1:-1000000000000000<=a * b:=by omega
       have y2:a * b<=1000000000000000:=by omega
       rw [Abn y1 y2]
       have xm':=λhh=>xm hh y1 y2
       clear d1 d2 s1 s2 hm Zo this y1 y2 xm
       refine wk ?_
       exact zr Ex rfl
def R97:Prop:=∀(n:Int) (h:H),Ah h (λr _=>r=.int .i64 (Abb n)) (ctx.call 97 [.int .i64 n] h)
def R99:Prop:=∀(b:Bool) (h:H),Ah h (λr _=>r=.int .i64 (Yg b)) (ctx.call 99 [.bool b] h)
def R61:Prop:=∀(o a b:Int) (h:H),(o=4\/o=5\/o=6\/9<=o/\o<=16)->Big a->Big b->Ah h (λr _=>r=.int .i64 (op2 o a b)) (ctx.call 61 [.int .i64 o,.int .i64 a,.int .i64 b] h)
theorem r61 (h97:R97 ctx) (h98:R98 ctx) (h99:R99 ctx) (o a b:Int) (h:H) (ho:o=4\/o=5\/o=6\/9<=o/\o<=16) (ha:Big a) (hb:Big b):Ah h (λr _=>r=.int .i64 (op2 o a b)) (Ay prog ctx N false 61 [.int .i64 o,.int .i64 a,.int .i64 b] h):=by
 rw [e61]
 have a1:=ha.1
 have a2:=ha.2
 have b1:=hb.1
 have b2:=hb.2
 have hc:o=4\/o=5\/o=6\/o=9\/o=10\/o=11\/o=12\/o=13\/o=14\/o=15\/o=16:=by omega
 rcases hc with rfl|rfl|rfl|rfl|rfl|rfl|rfl|rfl|rfl|rfl|rfl
 . (repeat' (first|refine wk ?_|(refine Pd (h97 _ _) ?_;intro vv hh ee E8 Bu qq;subst qq)|fail))
   exact zr Ex (by rw [AoB])
 . (repeat' (first|refine wk ?_|(refine Pd (h97 _ _) ?_;intro vv hh ee E8 Bu qq;subst qq)|fail))
   exact zr Ex (by rw [Arc])
 . (repeat' (first|refine wk ?_|(refine Pd (h98 _ _ _ ha hb) ?_;intro vv hh ee E8 Bu qq;subst qq)|fail))
   exact zr Ex (by rw [AiU])
 . (repeat' (first|refine wk ?_|(refine Pd (h99 _ _) ?_;intro vv hh ee E8 Bu qq;subst qq)|fail))
   exact zr Ex rfl
 . (repeat' (first|refine wk ?_|(refine Pd (h99 _ _) ?_;intro vv hh ee E8 Bu qq;subst qq)|fail))
   refine zr Ex ?_
   show _=AV.int .i64 (Yg (decide (a≠b)))
   simp
 . (repeat' (first|refine wk ?_|(refine Pd (h99 _ _) ?_;intro vv hh ee E8 Bu qq;subst qq)|fail))
   exact zr Ex rfl
 . (repeat' (first|refine wk ?_|(refine Pd (h99 _ _) ?_;intro vv hh ee E8 Bu qq;subst qq)|fail))
   exact zr Ex rfl
 . (repeat' (first|refine wk ?_|(refine Pd (h99 _ _) ?_;intro vv hh ee E8 Bu qq;subst qq)|fail))
   exact zr Ex rfl
 . (repeat' (first|refine wk ?_|(refine Pd (h99 _ _) ?_;intro vv hh ee E8 Bu qq;subst qq)|fail))
   exact zr Ex rfl
 . (have zz0:=@A5S;refine wk ?_)
   refine zr Ex ?_
   show AV.int .i64 _=AV.int .i64 (min a b)
   congr 1
   omega
 . (have zz0:=@AoA;refine wk ?_)
   refine zr Ex ?_
   show AV.int .i64 _=AV.int .i64 (max a b)
   congr 1
   omega
end Go.Proofs
namespace Go.Proofs
open Go Go.Ev Go.Nm Go.Ev.Sx
attribute [local irreducible] Aa Al Af Ad
section
variable {lo:Nat} {h hd hy h0:H} {sv:AV} {st:List Int} {Q:AV->H->Prop} {k:AV->H->OR}
theorem Aa4.at (hb:Aa4 lo 3 h sv st) (Hr:st≠[]):∃b,∀i,i<st.length->(∀hh,Gc 1 sv (.int .i64 (i:Int)) hh=.ok (.ptr b i) hh)/\∀hh,Bi h hh->Ae (some none) (.ptr b i) hh=.ok (.int .i64 (st.getD i 0)) hh:=by
 rcases hb with ⟨h1,_⟩|⟨b,cap,c,k,n,rfl,r2,r3,r4,r5,r6,r7,r8⟩
 . exact absurd h1 Hr
 . refine ⟨b,λi hi=>?_⟩
   have hs:Aa4 lo 3 h (.sl b 0 st.length cap 1 false) st:=.inr ⟨b,cap,c,k,n,rfl,r2,r3,r4,r5,r6,r7,r8⟩
   have hx:st[i]?=some (st.getD i 0):=by rw [List.getD_eq_getElem?_getD,List.getElem?_eq_getElem hi];rfl
   obtain ⟨b1,o1,el⟩:=R0.elem (f:=λn:Int=>[AV.int .i64 n]) (s:=1) (λ_=>rfl) hs.sl hx
   have hia:∀hh:H,Gc 1 (.sl b 0 st.length cap 1 false) (.int .i64 (i:Int)) hh=.ok (.ptr b i) hh:=λhh=>by
    rw [Agr 1 b 0 st.length cap 1 false i hi]
    simp
   have e:=(el.ia h).symm.trans (hia h)
   injection e with e1 e2
   injection e1 with e3 e4
   subst e3 e4
   have x2:=el.part 0 _ rfl
   exact ⟨hia,x2⟩
theorem AdP {x:Int} (hb:Aa4 lo 3 hd sv st) (e:Ai hd hy) (g:Ai h0 hy) (hh0:h0.nx<=lo) (Kf:lo<=hd.nx) (Fc:st.length<=1000) (hk:∀v h3,Aa4 lo 3 h3 v (st++[x])->Ai h0 h3->hy.nx<=h3.nx->(∀z∈h3.lg,z∈hy.lg\/lo<=z)->(∀c,c<lo->h3.m.get c=hy.m.get c)->Ah h0 Q (k v h3)):Ah h0 Q (Aa (Ds 3 1 8 sv (.sl hy.nx 0 1 1 1 true) (hy.new (.cells [.int .i64 x] 3 .exact))) k):=by
 have g1:Ai hy (hy.new (.cells [.int .i64 x] 3 .exact)):=(Ai.refl hy).new _
 have l1:=e.lo
 have F6:Hd (hy.new (.cells [.int .i64 x] 3 .exact)) 1 (.sl hy.nx 0 1 1 1 true)=some (1,[.int .i64 x]):=(Sl.lit (h:=hy) (len:=1) (s:=1) (cs:=[.int .i64 x]) (Bf _) rfl rfl).src
 obtain ⟨v,h3,p1,p2,p3,p4,p5,p6⟩:=(hb.gr (e.trans g1)).push F6 (by show lo<=hy.nx+1;omega) Fc
 refine Ey p1 (hk v h3 p2 (p6 h0 hh0 (g.trans g1)) (Nat.le_trans (Nat.le_succ _) p3) p5 λc hc=>(p4 c hc).trans (Cq _ _ om))
theorem Bdk {i:Nat} {z:Int} {b:Nat} (hb:Aa4 lo 3 hd sv st) (hi:i<st.length) (hbb:∀hh,Gc 1 sv (.int .i64 (i:Int)) hh=.ok (.ptr b i) hh) (e:Ai hd hy) (g:Ai h0 hy) (hh0:h0.nx<=lo) (hk:∀v h3,Aa4 lo 3 h3 sv (st.set i z)->Ai h0 h3->Ah h0 Q (k v h3)):Ah h0 Q (Aa (A4 1 (.ptr b i) (.int .i64 z) hy) k):=by
 obtain ⟨b2,h',p1,p2,p3,p4,p5,p6⟩:=(hb.gr e).set (z:=z) hi
 have e:=(hbb hy).symm.trans (p1 hy)
 injection e with e1 e2
 injection e1 with e3 e4
 subst e3
 exact Ey p2 (hk _ h' p3 (p6 h0 hh0 g))
end
end Go.Proofs
namespace Go.Proofs
open Go Go.Ev Go.Nm Tryz Go.Ev.Sx
attribute [local irreducible] Aa Al Af Ad
variable (ctx:Ac) (N:Nat)
theorem Aa4.tg {lo tk:Nat} {et:TypeId} {h h1:H} {sv vl:AV} {st:List Int} (hb:Aa4 lo et h sv st) (Kf:tk<lo) (e:TG tk vl h h1):Aa4 lo et h1 sv st:=by
 rcases hb with hb|⟨b,cap,c,k,n,r1,r2,r3,r4,r5,r6,r7,r8,r9,r10,r11,r12⟩
 . exact .inl hb
 . exact .inr ⟨b,cap,c,k,n,r1,by rw [e.Cf b r10 om];exact r2,by rw [e.Cf k r11 om];exact r3,r4,r5,r6,r7,r8,r9,Nat.lt_of_lt_of_le r10 e.lo,Nat.lt_of_lt_of_le r11 e.lo,r12⟩
theorem A4u {tk b ab ap an:Nat} {e:EF} {ah:H} (he:∀x∈e.w,x=tk) (ho:tk<ah.nx) (hb:b≠tk) (hc:∀k,B5 (ah.m.get b)=some k->k≠tk):Jo e ⟨ab,ap,[],.blk b,ah,an⟩=true:=by
 unfold Jo
 have h1:Ahl e.w []=true:=Zq _
 have h2:outside e.w ah.nx an=true:=Wo _ _ ho _ he
 have h3:clear (.blk b) e.w ah=true:=by
  show (Bool.rec (motive:=λ_=>Bool) (AbY e.w (B5 (ah.m.get b))) false (Ve b e.w):Bool)=true
  rw [Ab8 b e.w he hb]
  show AbY e.w (B5 (ah.m.get b))=true
  cases h:B5 (ah.m.get b) with
  |none=>rfl
  |some k=>
   show Ib (Ve k e.w)=true
   rw [Ab8 k e.w he (hc k h)]
   rfl
 rw [h1,h2,h3]
 cases M4 (Nat.lor (Nat.land e.pr ab) (Nat.land ap e.bit))<;>cases Nat.beq e.bit ab<;>rfl
def Anf (A1:List Cl) (r:AV) (h1:H):Prop:=∃vs:List Int,vs.length=A1.length/\(∀x∈vs,-1000<=x/\x<=1000)/\R0 1 (λn:Int=>[AV.int .i64 n]) h1 r vs
def R20:Prop:=∀(tk:Nat) (vl cv:AV) (L:List Int) (A1:List Cl) (h:H),H9 tk vl L h->CsR h cv A1->Av tk cv->(∀b off len cap z ex,cv=.sl b off len cap z ex->b<h.nx/\b≠tk/\∀k,B5 (h.m.get b)=some k->k≠tk)->(∀c∈A1,-3<=c.a/\c.a<=c.b/\c.b<=20)->D6 tk vl h (Anf A1) (ctx.call 20 [.ptr tk 0,cv] h)
set_option maxHeartbeats 2000000 in
theorem A5J (Fg:R38 ctx) (tk:Nat) (vl cv:AV) (L:List Int) (A1:List Cl) (hA:H) (hi:H9 tk vl L hA) (hc:CsR hA cv A1) (hav:Av tk cv) (hkz:∀b off len cap z ex,cv=.sl b off len cap z ex->b<hA.nx/\b≠tk/\∀k,B5 (hA.m.get b)=some k->k≠tk) (hr:∀c∈A1,-3<=c.a/\c.a<=c.b/\c.b<=20):
 ∀(u i:Nat) (ii:Int) (n:Nat) (hd:H) (sv:AV) (vs:List Int) (f0:L2),i+u=A1.length->ii=(i:Int)->u<n->vs.length=i->(∀x∈vs,-1000<=x/\x<=1000)->Aa4 hA.nx 3 hd sv vs->TG tk vl hA hd->Ah H0 (λr h1=>TG tk vl hA h1/\Anf A1 r h1) (Aym ctx N n (.ptr tk 0) cv sv (.int .i64 ii) f0 hd)
 |0,i,ii,n,hd,sv,vs,f0,Qd,hii,hn,hl,hx',hs,he=>by
  obtain ⟨n1,rfl⟩:∃n1,n=n1+1:=⟨n - 1,by omega⟩
  have k1:decide (ii<(A1.length:Int))=false:=df
  have hlen:∀hh,Fo cv hh=.ok (.int .i64 (A1.length:Int)) hh:=λ_=>hc.sl.Gs
  have fin:Anf A1 sv hd:=⟨vs,by omega,hx',hs.sl⟩
  clear hii hs
  rw [A3G]
  refine wk ?_
  exact zr (Ed _) ⟨he,fin⟩
 |u+1,i,ii,n,hd,sv,vs,f0,Qd,hii,hn,hl,hx',hs,he=>by
  obtain ⟨n1,rfl⟩:∃n1,n=n1+1:=⟨n - 1,by omega⟩
  have ih:=A5J Fg tk vl cv L A1 hA hi hc hav hkz hr u (i+1) (ii+1) n1
  have k1:decide (ii<(A1.length:Int))=true:=dt
  have ht:=hi.at'
  have B6:=ht.lt
  have hT:∀(k:Int) (hx:H),TG tk vl hA hx->k<=9223372036854775807->D6 tk vl hx (Below k) (ctx.call 38 [.ptr tk 0,.int .i64 k] hx):=λk hx e hk=>
   Fg tk vl L k hx (hi.tg e).at' (hi.tg e).ints hi.av hi.len hk
  have hlen:∀hh,Fo cv hh=.ok (.int .i64 (A1.length:Int)) hh:=λ_=>hc.sl.Gs
  obtain ⟨c,O0⟩:∃x,A1[i]?=some x:=⟨_,List.getElem?_eq_getElem om⟩
  obtain ⟨r1,r2,r3⟩:=hr c (List.mem_of_getElem? O0)
  obtain ⟨b1,o1,el⟩:=R0.elem (f:=Hx) (s:=4) (λ_=>rfl) (Sl.tg hc.sl ht hav he) O0
  have x1:=el.ia
  rw [<- hii] at x1
  have x2:=el.part 1 _ rfl
  have x3:=el.part 2 _ rfl
  have hil:=(List.getElem?_eq_some_iff.1 O0).1
  have Kf:=he.lo
  obtain ⟨off,cap,ex,hv⟩:=Acg (Sl.tg hc.sl ht hav he) hil el
  obtain ⟨z1,z2,z3⟩:=hkz _ _ _ _ _ _ hv
  have zc:∀hx:H,TG tk vl hA hx->∀k,B5 (hx.m.get b1)=some k->k≠tk:=λhx e k hk=>z3 k (by rw [<- e.Cf b1 z1 z2];exact hk)
  have hr1:0<=ii:=by omega
  have hr2:ii<=50:=by have:=hc.Mu;omega
  have go:=λhd sv vs f0 h4 h5 h6 h7=>ih hd sv vs f0 om om om h4 h5 h6 h7
  have hvl:vs.length<=50:=by have:=hc.Mu;omega
  replace go:=(show F5 _ from go)
  replace hT:=(show F5 _ from hT)
  replace zc:=(show F5 _ from zc)
  clear ih hc hav hkz hr hi O0 el hii hv
  rw [A3G]
  refine wk ?_
  refine M5 ((show ∀(k:Int) (hx:H),TG tk vl hA hx->k<=9223372036854775807->_ from hT) _ _ L5 om) λv5 h5 e5 l5 Az4 q5=>?_
  obtain ⟨jj,rfl,j0,j1⟩:=q5
  try simp only [C9] at l5 Az4
  have t5:TG tk vl hA h5:=L5
  have s5:Aa4 hA.nx 3 h5 sv vs:=Aa4.tg (h:=Ab (Ab hd)) hs B6 e5
  have c0:=(show ∀hx:H,TG tk vl hA hx->∀k,B5 (hx.m.get b1)=some k->k≠tk from zc) hd he
  have l5':hd.nx<=h5.nx:=l5
  refine wk ?_
  refine AdP (hy:=Ab h5) (x:=c.a+jj) s5 Ex (Ed _) (Nat.zero_le _) om om λv6 h6 s6 _ l6 lg6 Axm=>?_
  have t6:TG tk vl hA h6:=Asp (hy:=Ab h5) L5 (Nat.le_refl _) l6 Axm (λx hx=>(lg6 x hx).resolve_left (by simp))
  refine Pu tk hA.nx ?_ λLz Wp=>?_
  . simp only [List.forall_mem_cons,List.not_mem_nil,false_imp_iff,implies_true,and_true]
    repeat' (refine And.intro ?_ ?_)
    all_goals first|(left;simp;done)|(refine .inr ⟨λx hx=>?_,?_⟩;(focus first|exact .inl (TG.wrote (by assumption) x hx)|(have hz:=(lg6 x (D4 _ _ _ hx).1).resolve_left (by simp);exact .inr hz)|(refine .inr ?_;have hz:=(D4 _ _ _ hx).1;simp at hz;omega));(repeat' (refine And.intro ?_ ?_));all_goals first|(exact Ar ..)|(refine Ax _ _ _ _ _ _ _ _ _ _ _ _ ?_;decide)|exact Ci ..|exact A4u (tk:=tk) (TG.wrote (by assumption)) Ce z2 c0)
  . refine wk ?_
    refine (show ∀(hd:H) (sv:AV) (vs:List Int) (f0:L2) (h4:vs.length=i+1) (h5:∀x∈vs,-1000<=x/\x<=1000),_ from go) _ _ (vs++[c.a+jj]) _ (by rw [List.length_append,hl];rfl) (λx hx=>?_) s6.rl L5
    rcases List.mem_append.1 hx with h1|h1
    . exact hx' x h1
    . rw [List.mem_singleton.1 h1]
      omega
theorem r20 (hN:100<N) (Fg:R38 ctx) (tk:Nat) (vl cv:AV) (L:List Int) (A1:List Cl) (h:H) (hi:H9 tk vl L h) (hc:CsR h cv A1) (hav:Av tk cv) (hkz:∀b off len cap z ex,cv=.sl b off len cap z ex->b<h.nx/\b≠tk/\∀k,B5 (h.m.get b)=some k->k≠tk) (hr:∀c∈A1,-3<=c.a/\c.a<=c.b/\c.b<=20):D6 tk vl h (Anf A1) (Ay prog ctx N false 20 [.ptr tk 0,cv] h):=by
 have hf:=hc.Mu
 refine Qk ?_
 rw [e20]
 exact A5J ctx N Fg tk vl cv L A1 h hi hc hav hkz hr A1.length 0 0 N h .Bv [] _ om rfl om rfl (λx hx=>by cases hx) (Aa4.nil ..) (TG.refl hi.at')
end Go.Proofs
