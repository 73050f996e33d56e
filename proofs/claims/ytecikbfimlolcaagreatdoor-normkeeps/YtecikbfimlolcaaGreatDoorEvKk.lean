/- NormKeeps walked. -/
import Derived.Test.YtecikbfimlolcaaGreatDoorEvKj
set_option linter.all false
set_option maxRecDepth 100000
noncomputable section
namespace Go.Proofs
open Go Go.Ev Go.Nm Go.Ev.Sx
attribute [local irreducible] Aa Al Af Ad
variable (ctx:Ac) (N:Nat)
structure C21 (h:H) (lv cv vv:AV) (l:List Nd) (A1:List Cl) (vs:List Int):Prop where
 nd:Ue h lv l
 cs:CsK h cv A1
 vi:R0 1 (λn:Int=>[AV.int .i64 n]) h vv vs
 len:l.length<=200
 vl:vs.length=A1.length
def Aal (h:H) (lv cv vv:AV) (Q:AV->H->Prop) (n:Nat) (c i:Int) (st:List Int):Prop:=∀(hd:H) (f0:L2) (sv:AV),Ai h hd->Aa4 h.nx 3 hd sv st->Ah h Q (Ayp ctx N n lv cv vv sv (.int .i64 c) (.int .i64 i) f0 hd)
variable {h:H} {lv cv vv:AV} {l:List Nd} {A1:List Cl} {vs:List Int} {Q:AV->H->Prop} {n:Nat} {c i:Int} {st:List Int}
theorem BlN {m:Int} {w:List Nat} (K:C21 h lv cv vv l A1 vs) (hi:0<=i) (hx:l[i.toNat]?=some ⟨1,m,w⟩) (hs:st.length<=200) (hn:Aal ctx N h lv cv vv Q n c (i+1) (st++[m])):Aal ctx N h lv cv vv Q (n+1) c i st:=by
 intro hd f0 sv g hb
 have hl:=K.len
 have hil:=(List.getElem?_eq_some_iff.1 hx).1
 obtain ⟨b1,o1,x1,x2,_⟩:=Af8 (Sl.By K.nd g.keeps) hi hx
 have hln:∀hh,Fo lv hh=.ok (.int .i64 (l.length:Int)) hh:=λ_=>K.nd.Gs
 have Z3:∀hh,Fo sv hh=.ok (.int .i64 (st.length:Int)) hh:=λ_=>hb.sl.Gs
 have k1:decide (i<(l.length:Int))=true:=dt
 have hr:i<=200:=by omega
 have Kf:=g.lo
 replace hn:=(show F5 _ from hn)
 clear K hx hil hl
 rw [AeU]
 refine wk ?_
 refine AdP (x:=m) hb Ex Ex (Nat.le_refl _) Kf om λv h3 s3 g3 l3 _ _=>?_
 rw [AhG]
 refine wk ?_
 exact (show Aal ctx N h lv cv vv Q n c (i+1) (st++[m]) from hn) _ _ _ g3 s3
theorem AzW {w:List Nat} (K:C21 h lv cv vv l A1 vs) (hc:∃c∈A1,c.name=w) (hi:0<=i) (hi2:i<=200) (hs:st.length<=200) (hn:Aal ctx N h lv cv vv Q n (Abj A1 w) (i+1) (st++[vs.getD (Abj A1 w) 0])) (bx:Nat) (sv:AV):
 ∀(u j:Nat) (jj:Int) (n2:Nat) (hd:H) (f0:L2),j+u=Abj A1 w->jj=(j:Int)->u<n2->Ai h hd->Aa4 h.nx 3 hd sv st->bx<hd.nx->hd.m.get bx=.cells [.int .i64 2,.int .i64 0,.str w] 32 .exact->Ah h Q (Ayq ctx N n n2 lv cv vv sv (.int .i64 jj) (.int .i64 i) (.ptr bx 0) f0 hd)
 |0,j,jj,n2,hd,f0,hju,hjj,hn2,g,hb,hbx,hg=>by
  obtain ⟨n3,rfl⟩:∃n3,n2=n3+1:=⟨n2 - 1,by omega⟩
  obtain ⟨c,h1,h2,h3⟩:=Ad2 hc
  obtain rfl:j=Abj A1 w:=by omega
  have hil:=(List.getElem?_eq_some_iff.1 h1).1
  obtain ⟨b1,o1,el⟩:=R0.elem (f:=Hx) (s:=4) (λ_=>rfl) (K.cs.r.By g.keeps).sl h1
  have x1:=el.ia
  rw [<- hjj] at x1
  have x2:=el.part 0 _ rfl
  rw [Nat.add_zero] at x2
  have hv:vs[Abj A1 w]?=some (vs.getD (Abj A1 w) 0):=by rw [List.getD_eq_getElem?_getD,List.getElem?_eq_getElem (by rw [K.vl];exact hil)];rfl
  obtain ⟨b2,o2,el2⟩:=R0.elem (f:=λn:Int=>[AV.int .i64 n]) (s:=1) (λ_=>rfl) (Sl.By K.vi g.keeps) hv
  have y1:=el2.ia
  rw [<- hjj] at y1
  have y2:=el2.part 0 _ rfl
  rw [Nat.add_zero] at y2
  have k1:decide (c.name=w)=true:=decide_eq_true h2
  have Kf:=g.lo
  rw [<- hjj] at hn
  clear K hc h1 h3 el el2 hjj hju h2 hv
  generalize vs.getD (Abj A1 w) 0=y at hn y2
  replace hn:=(show F5 _ from hn)
  rw [A3K]
  refine wd ?_
  refine AdP (x:=y) (hd:=hd) hb Ex Ex (Nat.le_refl _) Kf om λv h3 s3 g3 l3 _ _=>?_
  rw [AhG]
  refine wk ?_
  exact (show Aal ctx N h lv cv vv Q n jj (i+1) (st++[y]) from hn) _ _ _ g3 s3
 |u+1,j,jj,n2,hd,f0,hju,hjj,hn2,g,hb,hbx,hg=>by
  obtain ⟨n3,rfl⟩:∃n3,n2=n3+1:=⟨n2 - 1,by omega⟩
  have ih:=AzW K hc hi hi2 hs hn bx sv u (j+1) (jj+1) n3
  obtain ⟨c0,h1,h2,h3⟩:=Ad2 hc
  obtain ⟨c,h4,h5⟩:=h3 j om
  have hil:=(List.getElem?_eq_some_iff.1 h1).1
  obtain ⟨b1,o1,el⟩:=R0.elem (f:=Hx) (s:=4) (λ_=>rfl) (K.cs.r.By g.keeps).sl h4
  have x1:=el.ia
  rw [<- hjj] at x1
  have x2:=el.part 0 _ rfl
  rw [Nat.add_zero] at x2
  have k1:decide (c.name=w)=false:=decide_eq_false h5
  have Kf:=g.lo
  have hf:=K.cs.r.Mu
  have hr1:0<=jj:=by omega
  have hr2:jj<=50:=by omega
  have go:=λhd f0=>ih hd f0 om om om
  replace go:=(show F5 _ from go)
  replace hn:=(show F5 _ from hn)
  clear ih K hc h1 h2 h3 h4 el hjj hju
  rw [A3K]
  refine wd ?_
  exact (show ∀(hd:H) (f0:L2),_ from go) _ _ Ex (hb.gr Ex) hbx hg
theorem BgG {w:List Nat} (hN:100<N) (K:C21 h lv cv vv l A1 vs) (hi:0<=i) (hx:l[i.toNat]?=some ⟨2,0,w⟩) (hc:∃c∈A1,c.name=w) (hs:st.length<=200) (hn:Aal ctx N h lv cv vv Q n (Abj A1 w) (i+1) (st++[vs.getD (Abj A1 w) 0])):Aal ctx N h lv cv vv Q (n+1) c i st:=by
 intro hd f0 sv g hb
 have hl:=K.len
 have hil:=(List.getElem?_eq_some_iff.1 hx).1
 obtain ⟨b1,o1,x1,x2,_⟩:=Af8 (Sl.By K.nd g.keeps) hi hx
 have hln:∀hh,Fo lv hh=.ok (.int .i64 (l.length:Int)) hh:=λ_=>K.nd.Gs
 have Z3:∀hh,Fo sv hh=.ok (.int .i64 (st.length:Int)) hh:=λ_=>hb.sl.Gs
 have k1:decide (i<(l.length:Int))=true:=dt
 have hr:i<=200:=by omega
 have Kf:=g.lo
 have Ox:Abj A1 w<N:=by
  obtain ⟨c,h1,_⟩:=Ad2 hc
  have:=(List.getElem?_eq_some_iff.1 h1).1
  have:=K.cs.r.Mu
  omega
 have lp:=λ(hd:H) f0=>AzW ctx N K hc hi hr hs hn hd.nx sv (Abj A1 w) 0 0 N ((hd.new (.cells [.int .i64 0,.int .i64 0,.str []] 32 .exact)).put hd.nx (.cells [.int .i64 2,.int .i64 0,.str w] 32 .exact)) f0 om rfl Ox
 replace lp:=(show F5 _ from lp)
 replace hn:=(show F5 _ from hn)
 clear K hx hil hl
 rw [AeU]
 refine wk ?_
 exact (show ∀(hd:H) (f0:L2),_ from lp) hd _ Ex (hb.gr Ex) (Nat.lt_succ_self _) (A2 ..)
theorem AzX {w:List Nat} {d:Cl} {q:Nat} (K:C21 h lv cv vv l A1 vs) (hq:A1[q]?=some d) (hc:w∈d.ws) (h5:d.ws.length<=5) (hi:0<=i) (hi2:i<=200) (hs:st.length<=200) (hn:Aal ctx N h lv cv vv Q n q (i+1) (st++[(Abl d.ws w:Int)])) (bx:Nat) (sv:AV):
 ∀(u j:Nat) (jj:Int) (n2:Nat) (hd:H) (f0:L2),j+u=Abl d.ws w->jj=(j:Int)->u<n2->Ai h hd->Aa4 h.nx 3 hd sv st->bx<hd.nx->hd.m.get bx=.cells [.int .i64 3,.int .i64 0,.str w] 32 .exact->Ah h Q (Ayr ctx N n n2 lv cv vv sv (.int .i64 (q:Int)) (.int .i64 i) (.ptr bx 0) (.int .i64 jj) f0 hd)
 |u,j,jj,n2,hd,f0,hju,hjj,hn2,g,hb,hbx,hg=>by
  obtain ⟨n3,rfl⟩:∃n3,n2=n3+1:=⟨n2 - 1,by omega⟩
  obtain ⟨b1,o1,el⟩:=R0.elem (f:=Hx) (s:=4) (λ_=>rfl) (K.cs.r.By g.keeps).sl hq
  have x1:=el.ia
  have x2:=el.part 3 _ rfl
  have hw:=Sl.By (K.cs.w d (List.mem_of_getElem? hq) (λhh=>by rw [hh] at hc;cases hc)) g.keeps
  obtain ⟨h1,h3⟩:=Aec hc
  have Kf:=g.lo
  cases u with
  |zero=>
   obtain rfl:j=Abl d.ws w:=by omega
   obtain ⟨b2,o2,el2⟩:=R0.elem (f:=Aeb) (s:=1) (λ_=>rfl) hw h1
   have y1:=el2.ia
   rw [<- hjj] at y1 hn
   have y2:=el2.part 0 _ rfl
   rw [Nat.add_zero] at y2
   replace hn:=(show F5 _ from hn)
   clear K hc h1 h3 el el2 hjj hju hq hw
   rw [A3L]
   refine wd ?_
   refine AdP (x:=jj) (hd:=hd) hb Ex Ex (Nat.le_refl _) Kf om λv h3 s3 g3 l3 _ _=>?_
   rw [AhG]
   refine wk ?_
   exact (show Aal ctx N h lv cv vv Q n q (i+1) (st++[jj]) from hn) _ _ _ g3 s3
  |succ u=>
   have ih:=AzX K hq hc h5 hi hi2 hs hn bx sv u (j+1) (jj+1) n3
   obtain ⟨e,h6,h7⟩:=h3 j om
   obtain ⟨b2,o2,el2⟩:=R0.elem (f:=Aeb) (s:=1) (λ_=>rfl) hw h6
   have y1:=el2.ia
   rw [<- hjj] at y1
   have y2:=el2.part 0 _ rfl
   rw [Nat.add_zero] at y2
   have hil:=(List.getElem?_eq_some_iff.1 h1).1
   have k1:decide (e=w)=false:=decide_eq_false h7
   have hr1:0<=jj:=by omega
   have hr2:jj<=50:=by omega
   have go:=λhd f0=>ih hd f0 om om om
   replace go:=(show F5 _ from go)
   replace hn:=(show F5 _ from hn)
   clear ih K hc h1 h3 el el2 hjj hju hq hw h6 hil
   rw [A3L]
   refine wd ?_
   exact (show ∀(hd:H) (f0:L2),_ from go) _ _ Ex (hb.gr Ex) hbx hg
theorem BlO {w:List Nat} {d:Cl} {q:Nat} (hN:100<N) (K:C21 h lv cv vv l A1 vs) (hi:0<=i) (hx:l[i.toNat]?=some ⟨3,0,w⟩) (hq:A1[q]?=some d) (hc:w∈d.ws) (h5:d.ws.length<=5) (hs:st.length<=200) (hn:Aal ctx N h lv cv vv Q n q (i+1) (st++[(Abl d.ws w:Int)])):Aal ctx N h lv cv vv Q (n+1) q i st:=by
 intro hd f0 sv g hb
 have hl:=K.len
 have hil:=(List.getElem?_eq_some_iff.1 hx).1
 obtain ⟨b1,o1,x1,x2,_⟩:=Af8 (Sl.By K.nd g.keeps) hi hx
 have hln:∀hh,Fo lv hh=.ok (.int .i64 (l.length:Int)) hh:=λ_=>K.nd.Gs
 have Z3:∀hh,Fo sv hh=.ok (.int .i64 (st.length:Int)) hh:=λ_=>hb.sl.Gs
 have k1:decide (i<(l.length:Int))=true:=dt
 have hr:i<=200:=by omega
 have Kf:=g.lo
 have Ox:Abl d.ws w<N:=by
  have:=(List.getElem?_eq_some_iff.1 (Aec hc).1).1
  omega
 have lp:=λ(hd:H) f0=>AzX ctx N K hq hc h5 hi hr hs hn hd.nx sv (Abl d.ws w) 0 0 N ((hd.new (.cells [.int .i64 0,.int .i64 0,.str []] 32 .exact)).put hd.nx (.cells [.int .i64 3,.int .i64 0,.str w] 32 .exact)) f0 om rfl Ox
 replace lp:=(show F5 _ from lp)
 replace hn:=(show F5 _ from hn)
 clear K hx hil hl hq hc
 rw [AeU]
 refine wk ?_
 exact (show ∀(hd:H) (f0:L2),_ from lp) hd _ Ex (hb.gr Ex) (Nat.lt_succ_self _) (A2 ..)
theorem BgH {o a z:Int} {s0:List Int} (K:C21 h lv cv vv l A1 vs) (hi:0<=i) (hx:l[i.toNat]?=some ⟨o,0,[]⟩) (ho:o=7/\z=-a\/o=17/\z=1 - a) (ha:Big a) (hs:(s0++[a]).length<=200) (hn:Aal ctx N h lv cv vv Q n c (i+1) (s0++[z])):Aal ctx N h lv cv vv Q (n+1) c i (s0++[a]):=by
 intro hd f0 sv g hb
 have hl:=K.len
 have hil:=(List.getElem?_eq_some_iff.1 hx).1
 obtain ⟨b1,o1,x1,x2,_⟩:=Af8 (Sl.By K.nd g.keeps) hi hx
 have hln:∀hh,Fo lv hh=.ok (.int .i64 (l.length:Int)) hh:=λ_=>K.nd.Gs
 have Z3:∀hh,Fo sv hh=.ok (.int .i64 ((s0.length:Int)+1)) hh:=λhh=>by rw [hb.sl.Gs,List.length_append];rfl
 have k1:decide (i<(l.length:Int))=true:=dt
 have hr:i<=200:=by omega
 have Kf:=g.lo
 obtain ⟨a1,a2⟩:=ha
 obtain ⟨b,hB⟩:=hb.at (by simp)
 obtain ⟨y1,y2⟩:=hB s0.length (by simp)
 have e2:(s0++[a]).getD s0.length 0=a:=by simp [List.getD_eq_getElem?_getD]
 rw [e2] at y2
 have es:(s0++[a]).set s0.length z=s0++[z]:=by simp
 have hls:s0.length<(s0++[a]).length:=by simp
 have P4:(s0.length:Int)<=200:=by rw [List.length_append] at hs;omega
 obtain ⟨m,hm⟩:∃m:Int,m=(s0.length:Int):=⟨_,rfl⟩
 rw [<- hm] at Z3 y1 P4
 have hm0:0<=m:=by omega
 have q1:m+1 - 1=m:=by omega
 have Vr:=λhy v=>Bdk (Q:=Q) (h0:=h) (hy:=hy) (z:=z) (k:=v) hb hls (hm ▸ y1)
 replace Vr:=(show F5 _ from Vr)
 replace hn:=(show F5 _ from hn)
 clear K hx hil hl hm hB e2 hs hls
 rcases ho with ⟨rfl,rfl⟩|⟨rfl,rfl⟩
 all_goals
  rw [AeU]
  refine wk ?_
  refine (show ∀hy v,_ from Vr) _ _ Ex Ex (Nat.le_refl _) λv h3 s3 g3=>?_
  rw [es] at s3
  rw [AhG]
  refine wk ?_
  exact (show Aal ctx N h lv cv vv Q n c (i+1) (s0++[_]) from hn) _ _ _ g3 s3
end Go.Proofs
namespace Go.Proofs
open Go Go.Ev Go.Nm Tryz Go.Ev.Sx
attribute [local irreducible] Aa Al Af Ad
variable (ctx:Ac) (N:Nat)
variable {h:H} {lv cv vv:AV} {l:List Nd} {A1:List Cl} {vs:List Int} {Q:AV->H->Prop} {n:Nat} {c i:Int}
theorem BlM {p a b:Int} {s0:List Int} (K:C21 h lv cv vv l A1 vs) (hi:0<=i) (hx:l[i.toNat]?=some ⟨8,0,[]⟩) (hs:(s0++[p,a,b]).length<=200) (hn:Aal ctx N h lv cv vv Q n c (i+1) (s0++[if p=1 then a else b])):Aal ctx N h lv cv vv Q (n+1) c i (s0++[p,a,b]):=by
 intro hd f0 sv g hb
 have hl:=K.len
 have hil:=(List.getElem?_eq_some_iff.1 hx).1
 obtain ⟨b1,o1,x1,x2,_⟩:=Af8 (Sl.By K.nd g.keeps) hi hx
 have hln:∀hh,Fo lv hh=.ok (.int .i64 (l.length:Int)) hh:=λ_=>K.nd.Gs
 have Z3:∀hh,Fo sv hh=.ok (.int .i64 ((s0.length:Int)+3)) hh:=λhh=>by rw [hb.sl.Gs,List.length_append];rfl
 have k1:decide (i<(l.length:Int))=true:=dt
 have hr:i<=200:=by omega
 have Kf:=g.lo
 obtain ⟨bb,hB⟩:=hb.at (by simp)
 obtain ⟨y1,y2⟩:=hB s0.length (by simp)
 obtain ⟨y3,y4⟩:=hB (s0.length+1) (by simp)
 obtain ⟨y5,y6⟩:=hB (s0.length+2) (by simp)
 rw [show (s0++[p,a,b]).getD s0.length 0=p by simp [List.getD_eq_getElem?_getD]] at y2
 rw [show (s0++[p,a,b]).getD (s0.length+1) 0=a by simp [List.getD_eq_getElem?_getD,List.getElem?_append_right]] at y4
 rw [show (s0++[p,a,b]).getD (s0.length+2) 0=b by simp [List.getD_eq_getElem?_getD,List.getElem?_append_right]] at y6
 have P4:(s0.length:Int)<=200:=by rw [List.length_append] at hs;omega
 have hl3:s0.length<=200:=by omega
 have sp:∀hy,Ai hd hy->∃v,(∀hh:H,xSl prog 34 sv none (some (.int .i64 (s0.length:Int))) hh=.ok v hh)/\Aa4 h.nx 3 hy v s0:=λhy e=>by
  obtain ⟨v,h1,h2⟩:=(hb.gr e).cut (P:=prog) (t:=34) (e:=3) (bytes:=8) (m:=s0.length) (by kernel_rfl) (by simp)
  exact ⟨v,h1,by simpa using h2⟩
 obtain ⟨sv2,w1,w2⟩:=sp hd (Ai.refl _)
 obtain ⟨m,hm⟩:∃m:Int,m=(s0.length:Int):=⟨_,rfl⟩
 rw [show ((s0.length+1:Nat):Int)=m+1 by omega] at y3
 rw [show ((s0.length+2:Nat):Int)=m+2 by omega] at y5
 rw [<- hm] at Z3 y1 P4 w1
 have hm0:0<=m:=by omega
 have q1:m+3 - 1=m+2:=by omega
 have q2:m+3 - 2=m+1:=by omega
 have q3:m+3 - 3=m:=by omega
 replace hn:=(show F5 _ from hn)
 clear K hx hil hl hm hB hs sp
 by_cases hp:p=1
 . have k2:decide (p=1)=true:=decide_eq_true hp
   rw [AeU]
   refine wk ?_
   rw [A3B]
   refine wk ?_
   refine AdP (x:=a) w2 Ex Ex (Nat.le_refl _) Kf om λv h3 s3 g3 l3 _ _=>?_
   rw [AhG]
   refine wk ?_
   rw [if_pos hp] at hn
   exact (show Aal ctx N h lv cv vv Q n c (i+1) (s0++[_]) from hn) _ _ _ g3 s3
 . have k2:decide (p=1)=false:=decide_eq_false hp
   rw [AeU]
   refine wk ?_
   rw [A3B]
   refine wk ?_
   refine AdP (x:=b) w2 Ex Ex (Nat.le_refl _) Kf om λv h3 s3 g3 l3 _ _=>?_
   rw [AhG]
   refine wk ?_
   rw [if_neg hp] at hn
   exact (show Aal ctx N h lv cv vv Q n c (i+1) (s0++[_]) from hn) _ _ _ g3 s3
theorem BlL {z:Int} (K:C21 h lv cv vv l A1 vs) (hQ:∀h1,Q (.int .i64 z) h1):Aal ctx N h lv cv vv Q (n+1) c (l.length:Int) [z]:=by
 intro hd f0 sv g hb
 have hln:∀hh,Fo lv hh=.ok (.int .i64 (l.length:Int)) hh:=λ_=>K.nd.Gs
 have k1:decide ((l.length:Int)<(l.length:Int))=false:=df
 obtain ⟨bb,hB⟩:=hb.at (by simp)
 obtain ⟨y1,y2⟩:=hB 0 (by simp)
 rw [show ([z]:List Int).getD 0 0=z from rfl] at y2
 rw [show ((0:Nat):Int)=0 from rfl] at y1
 clear K hB
 rw [AeU]
 refine wk ?_
 exact zr Ex (hQ _)
set_option maxHeartbeats 1000000 in
theorem BgI {o a b:Int} {s0:List Int} (h61:R61 ctx) (K:C21 h lv cv vv l A1 vs) (hi:0<=i) (hx:l[i.toNat]?=some ⟨o,0,[]⟩) (ho:o=4\/o=5\/o=6\/9<=o/\o<=16) (ha:Big a) (hb':Big b) (hs:(s0++[a,b]).length<=200) (hn:Aal ctx N h lv cv vv Q n c (i+1) (s0++[op2 o a b])):Aal ctx N h lv cv vv Q (n+1) c i (s0++[a,b]):=by
 intro hd f0 sv g hb
 have hl:=K.len
 have hil:=(List.getElem?_eq_some_iff.1 hx).1
 obtain ⟨b1,o1,x1,x2,_⟩:=Af8 (Sl.By K.nd g.keeps) hi hx
 have hln:∀hh,Fo lv hh=.ok (.int .i64 (l.length:Int)) hh:=λ_=>K.nd.Gs
 have Z3:∀hh,Fo sv hh=.ok (.int .i64 ((s0.length:Int)+2)) hh:=λhh=>by rw [hb.sl.Gs,List.length_append];rfl
 have k1:decide (i<(l.length:Int))=true:=dt
 have hr:i<=200:=by omega
 have Kf:=g.lo
 obtain ⟨bb,hB⟩:=hb.at (by simp)
 obtain ⟨y1,y2⟩:=hB s0.length (by simp)
 obtain ⟨y3,y4⟩:=hB (s0.length+1) (by simp)
 rw [show (s0++[a,b]).getD s0.length 0=a by simp [List.getD_eq_getElem?_getD]] at y2
 rw [show (s0++[a,b]).getD (s0.length+1) 0=b by simp [List.getD_eq_getElem?_getD,List.getElem?_append_right]] at y4
 have P4:(s0.length:Int)<=200:=by rw [List.length_append] at hs;omega
 have hl3:s0.length<=200:=by omega
 obtain ⟨sv2,w1,w2⟩:∃v,(∀hh:H,xSl prog 34 sv none (some (.int .i64 (s0.length:Int))) hh=.ok v hh)/\Aa4 h.nx 3 hd v s0:=by
  obtain ⟨v,h1,h2⟩:=hb.cut (P:=prog) (t:=34) (e:=3) (bytes:=8) (m:=s0.length) (by kernel_rfl) (by simp)
  exact ⟨v,h1,by simpa using h2⟩
 obtain ⟨m,hm⟩:∃m:Int,m=(s0.length:Int):=⟨_,rfl⟩
 rw [show ((s0.length+1:Nat):Int)=m+1 by omega] at y3
 rw [<- hm] at Z3 y1 P4 w1
 have hm0:0<=m:=by omega
 have q1:m+2 - 1=m+1:=by omega
 have q2:m+2 - 2=m:=by omega
 have d1:decide (o=1)=false:=df
 have d2:decide (o=2)=false:=df
 have d3:decide (o=3)=false:=df
 have d7:decide (o=7)=false:=df
 have d17:decide (o=17)=false:=df
 have d8:decide (o=8)=false:=df
 have hC:=λhh=>h61 o a b hh ho ha hb'
 replace hC:=(show F5 _ from hC)
 replace hn:=(show F5 _ from hn)
 clear K hx hil hl hm hB hs h61 ho ha hb'
 rw [AeU]
 refine wk ?_
 refine Fj ((show ∀hh,_ from hC) _) λv5 h5 e5 l5 Az4 q5=>?_
 subst q5
 have eqt:=Ai.quiet e5
 try simp only [C9] at l5 Az4 eqt
 have g5:Ai hd h5:=Ai.trans Ex e5
 refine wk ?_
 refine AdP (hy:=Ab h5) (x:=op2 o a b) w2 (Ex) Ex (Nat.le_refl _) Kf om λv6 h6 s6 g6 l6 lg6 _=>?_
 refine Pu h.nx h.nx ?_ λLz Wp=>?_
 . simp only [List.forall_mem_cons,List.not_mem_nil,false_imp_iff,implies_true,and_true]
   repeat' (refine And.intro ?_ ?_)
   all_goals first|(left;simp;done)|(left;assumption)|(refine .inr ⟨λx hx=>?_,?_⟩;(focus first|(have hz:=(lg6 x (D4 _ _ _ hx).1).resolve_left (by simp);exact .inr hz)|(refine .inr ?_;have hz:=(D4 _ _ _ hx).1;simp at hz;omega));(repeat' (refine And.intro ?_ ?_));all_goals first|(exact Ar ..)|(refine Ax _ _ _ _ _ _ _ _ _ _ _ _ ?_;decide)|exact Ci ..)
 . rw [AhG]
   refine wk ?_
   exact (show Aal ctx N h lv cv vv Q n c (i+1) (s0++[op2 o a b]) from hn) _ _ _ (Ab3 (hA:=(hd.new (.cells [.int .i64 0,.int .i64 0,.str []] 32 .exact)).put hd.nx (.cells (Bw ⟨o,0,[]⟩) 32 .exact)) Ex Ex Wp (Nat.le_refl _) (Nat.le_refl _)) s6.rl
def G21 (h:H) (lv cv vv:AV) (Q:AV->H->Prop) (l:List Nd) (i:Nat) (st:List Int):Prop:=∀(n:Nat) (c:Int),l.length<n+i->st.length<=i->Aal ctx N h lv cv vv Q n c (i:Int) st
theorem AsB {V:Awv} {t:Tr} {k:Bool} (hV:VOk (AaR A1) V) (ht:E7 (AaR A1) k t):Big (ev V t):=by
 have:=Af4 hV ht
 cases k
 . exact this
 . have:_\/_:=this
   show _/\_
   omega
theorem BcZ (hN:100<N) (h61:R61 ctx) (K:C21 h lv cv vv l A1 vs) (hv:∀x∈vs,-1000<=x/\x<=1000) (hsm:∀c∈A1,∀d∈A1,c.name=d.name->c.ws=d.ws) (h5:∀c∈A1,c.ws.length<=5):Bbm (AaR A1) l (G21 ctx N h lv cv vv Q l) (ev (Ag2 A1 vs)):=by
 have hV:VOk (AaR A1) (Ag2 A1 vs):=A0h hv
 have ix:∀{i:Nat} {x:Nd},l[i]?=some x->l[((i:Nat):Int).toNat]?=some x/\i<l.length:=λ{i x} h=>⟨by rw [Int.toNat_natCast];exact h,(List.getElem?_eq_some_iff.1 h).1⟩
 have hl:=K.len
 refine ⟨?_,?_,?_,?_,?_⟩
 . intro pre x post st hl h' hG n c hn hs
   obtain ⟨e1,e2⟩:=ix (show l[pre.length]?=some x by rw [hl];exact Adw)
   obtain ⟨m,rfl⟩:∃m,n=m+1:=⟨n - 1,by omega⟩
   have go:∀c',Aal ctx N h lv cv vv Q m c' ((pre.length:Int)+1) (st++[ev (Ag2 A1 vs) (.leaf x)]):=λc'=>hG m c' om (by simp;omega)
   obtain ⟨op,nn,Zn⟩:=x
   rcases h'.2 with ⟨a1,a2,_⟩|⟨a1,a2,a3⟩
   . simp only at a1 a2
     subst a1 a2
     exact BlN ctx N K om e1 om (go c)
   . simp only at a1 a2
     subst a1 a2
     exact BgG ctx N hN K om e1 a3 om (go _)
 . intro pre x y o post st hl h' ho hG n c hn hs
   obtain ⟨⟨a1,a2,a3⟩,a4,a5,a6⟩:=h'
   obtain ⟨e1,e2⟩:=ix (show l[pre.length]?=some x by rw [hl];exact Adw)
   obtain ⟨e3,e4⟩:=ix (show l[pre.length+1]?=some y by rw [hl];simp)
   obtain ⟨e5,e6⟩:=ix (show l[pre.length+2]?=some ⟨o,0,[]⟩ by rw [hl];simp)
   obtain ⟨m,rfl⟩:∃m,n=m+3:=⟨n - 3,by omega⟩
   obtain ⟨op,nn,Zn⟩:=x
   obtain ⟨BrV,nn2,w⟩:=y
   simp only at a1 a2 a4 a5
   subst a1 a2 a4 a5
   obtain ⟨d,d1,d2,_⟩:=Ad2 a3
   have dm:=List.mem_of_getElem? d1
   have hw:w∈d.ws:=by
    obtain ⟨c0,b1,b2,b3⟩:=a6
    rw [hsm d dm c0 b1 (d2.trans b2.symm)]
    exact b3
   have ew:(Ag2 A1 vs).word Zn w=(Abl d.ws w:Int):=by
    show (match A1[Abj A1 Zn]? with|some c=>(Abl c.ws w:Int)|none=>0)=_
    rw [d1]
   have go:Aal ctx N h lv cv vv Q m (Abj A1 Zn) ((pre.length:Int)+1+1+1) (st++[op2 o (vs.getD (Abj A1 Zn) 0) (Abl d.ws w:Int)]):=by
    have:=hG m (Abj A1 Zn) om (by simp;omega)
    rw [show ev (Ag2 A1 vs) (.two o (.leaf ⟨2,0,Zn⟩) (.leaf ⟨3,0,w⟩))=op2 o (vs.getD (Abj A1 Zn) 0) (Abl d.ws w:Int) from by rw [<- ew];rfl] at this
    exact this
   have Qy:Big (vs.getD (Abj A1 Zn) 0):=hV Zn a3
   have Wg:Big (Abl d.ws w:Int):=by
    have:=(List.getElem?_eq_some_iff.1 (Aec hw).1).1
    have:=h5 d dm
    show _/\_
    omega
   refine BgG ctx N hN K om e1 a3 om ?_
   refine BlO ctx N hN K om (by rw [show ((pre.length:Int)+1).toNat=pre.length+1 by omega];exact e3) d1 hw (h5 d dm) (by simp;omega) ?_
   rw [List.append_assoc]
   exact BgI ctx N h61 K om (by rw [show ((pre.length:Int)+1+1).toNat=pre.length+2 by omega];exact e5) om Qy Wg (by simp;omega) go
 . intro pre o a k post st hl h' hG n c hn hs
   obtain ⟨e1,e2⟩:=ix (show l[pre.length]?=some ⟨o,0,[]⟩ by rw [hl];exact Adw)
   obtain ⟨m,rfl⟩:∃m,n=m+1:=⟨n - 1,by omega⟩
   have go:Aal ctx N h lv cv vv Q m c ((pre.length:Int)+1) (st++[ev (Ag2 A1 vs) (.one o a)]):=hG m c om (by simp at hs ⊢;omega)
   rcases h' with ⟨rfl,rfl,h'⟩|⟨rfl,rfl,h'⟩
   . exact BgH ctx N K om e1 (.inl ⟨rfl,rfl⟩) (AsB hV h') om go
   . exact BgH ctx N K om e1 (.inr ⟨rfl,rfl⟩) (AsB hV h') om go
 . intro pre o a b k j post st hl h' ha hb hj hG n c hn hs
   obtain ⟨e1,e2⟩:=ix (show l[pre.length]?=some ⟨o,0,[]⟩ by rw [hl];exact Adw)
   obtain ⟨m,rfl⟩:∃m,n=m+1:=⟨n - 1,by omega⟩
   have go:Aal ctx N h lv cv vv Q m c ((pre.length:Int)+1) (st++[ev (Ag2 A1 vs) (.two o a b)]):=hG m c om (by simp at hs ⊢;omega)
   rw [Abr (Abe hb)] at go
   have ho:o=4\/o=5\/o=6\/9<=o/\o<=16:=by rcases h' with h'|h'|h'|h'<;>omega
   exact BgI ctx N h61 K om e1 ho (AsB hV ha) (AsB hV hb) om go
 . intro pre p a b post st hl h' hG n c hn hs
   obtain ⟨e1,e2⟩:=ix (show l[pre.length]?=some ⟨8,0,[]⟩ by rw [hl];exact Adw)
   obtain ⟨m,rfl⟩:∃m,n=m+1:=⟨n - 1,by omega⟩
   have go:Aal ctx N h lv cv vv Q m c ((pre.length:Int)+1) (st++[ev (Ag2 A1 vs) (.three p a b)]):=hG m c om (by simp at hs ⊢;omega)
   exact BlM ctx N K om e1 om go
def R21:Prop:=∀(lv cv vv:AV) (A1:List Cl) (vs:List Int) (t:Tr) (k:Bool) (h:H),Ue h lv t.nodes->size t<=200->E7 (AaR A1) k t->CsK h cv A1->R0 1 (λn:Int=>[AV.int .i64 n]) h vv vs->vs.length=A1.length->(∀x∈vs,-1000<=x/\x<=1000)->(∀c∈A1,∀d∈A1,c.name=d.name->c.ws=d.ws)->(∀c∈A1,c.ws.length<=5)->Ah h (λr _=>r=.int .i64 (ev (Ag2 A1 vs) t)) (ctx.call 21 [lv,cv,vv] h)
theorem r21 (hN:300<N) (h61:R61 ctx) (lv cv vv:AV) (A1:List Cl) (vs:List Int) (t:Tr) (k:Bool) (h:H) (hl:Ue h lv t.nodes) (hs:size t<=200) (ht:E7 (AaR A1) k t) (hc:CsK h cv A1) (hvv:R0 1 (λn:Int=>[AV.int .i64 n]) h vv vs) (hvl:vs.length=A1.length) (hv:∀x∈vs,-1000<=x/\x<=1000) (hsm:∀c∈A1,∀d∈A1,c.name=d.name->c.ws=d.ws) (h5:∀c∈A1,c.ws.length<=5):Ah h (λr _=>r=.int .i64 (ev (Ag2 A1 vs) t)) (Ay prog ctx N false 21 [lv,cv,vv] h):=by
 rw [e21]
 have hn:=Ao t
 have K:C21 h lv cv vv t.nodes A1 vs:=⟨hl,hc,hvv,by omega,hvl⟩
 have hG:=Ab4 (BcZ ctx N (Q:=λr _=>r=.int .i64 (ev (Ag2 A1 vs) t)) om h61 K hv hsm h5) t k ht [] [] [] (by simp) (λn c hn hs=>by
  rw [List.nil_append] at hn
  obtain ⟨m,rfl⟩:∃m,n=m+1:=⟨n - 1,by omega⟩
  exact BlL ctx N K λ_=>rfl)
 exact hG N 0 (by show t.nodes.length<N+0;omega) (Nat.le_refl _) h _ _ (Ai.refl h) (Aa4.nil ..)
end Go.Proofs
namespace Go.Proofs
open Go Go.Ev Go.Nm Go.Ev.Sx
theorem Bg4:N1.Nodup:=by decide
theorem Bg3 (u:Nat):(R2.take u).Nodup:=List.Sublist.nodup (List.take_sublist u R2) (by decide)
theorem Bdl {lo:Nat} {h:H} {v:AV} {l:List Sc} (G:S0 h) (S:Scs lo h v l) (hl:l.length<=3) (V:SsV l):SsD h v l:=by
 obtain ⟨all,h1,h2,h3,h4⟩:=V
 refine ⟨⟨S.own.sl,λs hs=>⟨(S.ok s hs).one,(S.ok s hs).cell⟩,by omega⟩,λs hs=>?_,by rw [h3];exact Bg3 _⟩
 have o:=S.ok s hs
 obtain ⟨q1,sub,q2,q3⟩:=h4 s hs
 have hn:s.A1.map Cl.name=sub.map Cl.name:=by
  have:=congrArg (List.map Prod.fst) q3
  simpa [List.map_map,Function.comp_def,Px] using this
 have Abm:∀c∈s.A1,∃d∈all,Px c=Px d:=λc hc=>by
  have h5:Px c∈sub.map Px:=q3 ▸ List.mem_map_of_mem hc
  obtain ⟨e,h6,h7⟩:=List.mem_map.1 h5
  exact ⟨e,List.mem_of_mem_take (q2.subset h6),h7.symm⟩
 refine ⟨?_,q1,o.ne,o.Mu,?_,⟨⟨o.A1.sl,λc hc=>⟨(o.A1.ok c hc).one,(o.A1.ok c hc).cell⟩,by have:=o.Mu;omega⟩,λc hc=>(o.A1.ok c hc).words,λc hc=>?_,G⟩,o.one,o.cell⟩
 . have:s.name∈l.map Sc.name:=List.mem_map_of_mem hs
   rw [h3] at this
   exact List.mem_of_mem_take this
 . rw [hn]
   have h8:(sub.map Cl.name).Sublist (all.map Cl.name):=(q2.trans (List.take_sublist ..)).map _
   rw [h1] at h8
   exact h8.nodup Bg4
 . obtain ⟨d,d1,d2⟩:=Abm c hc
   have e1:c.name=d.name:=congrArg Prod.fst d2
   have e2:c.a=d.a:=congrArg (λp=>p.2.1) d2
   have e3:c.b=d.b:=congrArg (λp=>p.2.2.1) d2
   have e4:c.ws=d.ws:=congrArg (λp=>p.2.2.2) d2
   rw [e1,e2,e3,e4]
   exact ⟨h1 ▸ List.mem_map_of_mem d1,h2 d d1⟩
theorem AiR {l m:List Cl} (h:m.map Px=l.map Px) {c:Cl} (hc:c∈m):∃d∈l,c.name=d.name/\c.a=d.a/\c.b=d.b/\c.ws=d.ws:=by
 have h5:Px c∈l.map Px:=h ▸ List.mem_map_of_mem hc
 obtain ⟨d,h6,h7⟩:=List.mem_map.1 h5
 exact ⟨d,h6,(congrArg Prod.fst h7).symm,(congrArg (λp=>p.2.1) h7).symm,(congrArg (λp=>p.2.2.1) h7).symm,(congrArg (λp=>p.2.2.2) h7).symm⟩
theorem A48 {l m:List Cl} (h:m.map Px=l.map Px):AaR m=AaR l:=by
 have key:∀{l m:List Cl},m.map Px=l.map Px->(∀n,(∃c∈m,c.name=n)->∃c∈l,c.name=n)/\∀n w,(∃c∈m,c.name=n/\w∈c.ws)->∃c∈l,c.name=n/\w∈c.ws:=λ{l m} h=>⟨λn ⟨c,h1,h2⟩=>by
  obtain ⟨d,d1,d2,_⟩:=AiR h h1
  exact ⟨d,d1,d2.symm.trans h2⟩,λn w ⟨c,h1,h2,h3⟩=>by
  obtain ⟨d,d1,d2,_,_,d5⟩:=AiR h h1
  exact ⟨d,d1,d2.symm.trans h2,d5 ▸ h3⟩⟩
 unfold AaR
 congr 1
 . funext n
   exact propext ⟨(key h).1 n,(key h.symm).1 n⟩
 . funext n w
   exact propext ⟨(key h).2 n w,(key h.symm).2 n w⟩
theorem AoD {ss:List Sc} {q:Qr} {c:Cl} (h:c∈AaF ss q):∃s∈ss,c∈s.A1:=by
 have key:∀nm,c∈Ab1 ss nm->∃s∈ss,c∈s.A1:=λnm h=>by
  simp only [Ab1,List.mem_flatMap,List.mem_filter] at h
  obtain ⟨s,⟨h1,_⟩,h2⟩:=h
  exact ⟨s,h1,h2⟩
 rcases List.mem_append.1 h with h|h
 . exact key _ h
 . exact key _ h
structure Bbi (ss:List Sc) (q:Qr) (m:List Cl):Prop where
 dom:AaR m=AaR (AaF ss q)
 rng:∀c∈m,-3<=c.a/\c.a<=c.b/\c.b<=20
 same:∀c∈m,∀d∈m,c.name=d.name->c.ws=d.ws
 Mu:∀c∈m,c.ws.length<=5
theorem A8s {ss:List Sc} {q:Qr} {m:List Cl} {h:H} {sv:AV} (hs:SsD h sv ss) (hV:SsV ss) (hd:m.map Px=(AaF ss q).map Px):Bbi ss q m:=by
 have hv:∀c∈m,AdD c.a c.b c.ws:=λc hc=>by
  obtain ⟨d,d1,d2,d3,d4,d5⟩:=AiR hd hc
  obtain ⟨s,s1,s2⟩:=AoD d1
  rw [d3,d4,d5]
  exact ((hs.d s s1).cs.ok d s2).2
 refine ⟨A48 hd,λc hc=>AsC (hv c hc),λc hc e he hn=>?_,λc hc=>(hv c hc).Mu⟩
 obtain ⟨d,d1,d2,_,_,d5⟩:=AiR hd hc
 obtain ⟨f,f1,f2,_,_,f5⟩:=AiR hd he
 obtain ⟨s,s1,s2⟩:=AoD d1
 obtain ⟨t,t1,t2⟩:=AoD f1
 have:=AiV hV s1 t1 s2 t2 (by rw [<- d2,<- f2,hn])
 rw [d5,f5]
 exact congrArg (λp=>p.2.2.2) this
end Go.Proofs
namespace Go.Proofs
open Go Go.Ev Go.Nm Tryz Go.Ev.Sx
attribute [local irreducible] Aa Al Af Ad
variable (ctx:Ac) (N:Nat)
def K13 (h:H):Prop:=∀h1,Ai h h1->Ah h1 (λr _=>r=.bool true) (ctx.call 13 [] h1)
theorem R8.all {lo:Nat} {r:AV} {h1:H} (G:S0 h1) (ho:R8 lo r h1):∃l,SsV l/\l.length<=3/\SsD h1 r l/\∀tk,h1.nx<=tk->W9 tk h1 r l:=by
 obtain ⟨l,q1,q2,q3,q4⟩:=ho
 refine ⟨l,q4,q2,Bdl G q3 q2 q4,λtk hk=>⟨q1,q2,q3.own.sl,Sl.av q3.own.sl hk,λs hs=>?_⟩⟩
 have a:=q3.ok s hs
 exact ⟨a.nn,a.ne,a.Mu,⟨a.A1.sl,Sl.av a.A1.sl hk,λc hc=>⟨(a.A1.ok c hc).Mu,(a.A1.ok c hc).words,Sl.av (a.A1.ok c hc).words hk,(a.A1.ok c hc).one,(a.A1.ok c hc).cell⟩⟩,a.one,a.cell,λb off len cap z ex hv h0=>by
  obtain ⟨p1,p2⟩:=a.kz b off len cap z ex hv h0
  exact ⟨Nat.lt_of_lt_of_le p1 hk,λk hkk=>Nat.lt_of_lt_of_le (p2 k hkk) hk⟩⟩
structure EvF (h:H) (cv vv:AV) (m:List Cl) (vs:List Int) (D:Dom):Prop where
 cs:CsK h cv m
 vi:R0 1 (λn:Int=>[AV.int .i64 n]) h vv vs
 vl:vs.length=m.length
 rng:∀x∈vs,-1000<=x/\x<=1000
 dom:AaR m=D
 same:∀c∈m,∀d∈m,c.name=d.name->c.ws=d.ws
 Mu:∀c∈m,c.ws.length<=5
theorem EvF.run {h:H} {cv vv lv:AV} {m:List Cl} {vs:List Int} {D:Dom} {t:Tr} {k:Bool} (F:EvF h cv vv m vs D) (O8:R21 ctx) (ht:E7 D k t) (hs:size t<=Sd 3) (hl:Ue h lv t.nodes):∀hh,Bi h hh->Ah hh (λr _=>r=.int .i64 (ev (Ag2 m vs) t)) (ctx.call 21 [lv,cv,vv] hh):=λhh e=>
 O8 lv cv vv m vs t k hh (Sl.By hl e) (Nat.le_trans hs (by decide)) (F.dom ▸ ht) (F.cs.By e) (Sl.By F.vi e) F.vl F.rng F.same F.Mu
theorem EvF.ok {h:H} {cv vv:AV} {m:List Cl} {vs:List Int} {D:Dom} (F:EvF h cv vv m vs D):VOk D (Ag2 m vs):=F.dom ▸ A0h F.rng
set_option maxHeartbeats 2000000 in
theorem r6 (Jz:R14 ctx) (Mt:R15 ctx) (Fh:R10 ctx) (R1:R18 ctx) (U5:R19 ctx) (U6:R20 ctx) (O8:R21 ctx) (va vb vc:AV) (La Lb Lc:List Int) (h:H) (hG:S0 h) (It:K13 ctx h) (ha:Lf h va La) (hb:Lf h vb Lb) (hc:Lf h vc Lc) (la:(La.length:Int)<=9223372036854775807) (lb:(Lb.length:Int)<=9223372036854775807) (lc:(Lc.length:Int)<=9223372036854775807):
 Ah h (λv _=>v=.bool true) (Ay prog ctx N false 6 [va,vb,vc] h):=by
 rw [e6]
 obtain ⟨oc1,oc2⟩:=B2 hc
 refine Fj (It h (Ai.refl h)) λv1 h1 e1 l1 Aad q1=>?_
 subst q1
 refine Fj (Mt va La h1 (Sl.By ha e1.keeps) la) λsv h2 e2 l2 Aae q2=>?_
 obtain ⟨ss,hV,hl3,hD,hS⟩:=q2.all (hG.By (e1.trans e2).keeps)
 refine Fj (Jz vb sv Lb ss h2 (Sl.By hb (e1.trans e2).keeps) lb hS hV) λv3 h3 e3 l3 Ary q3=>?_
 obtain ⟨q,wc,wo,wm,rfl,qv,hQ⟩:=q3
 have g3:=(e1.trans e2).trans e3
 have hc3:Lf h3 vc Lc:=Sl.By hc g3.keeps
 have hD3:=hD.By e3.keeps
 obtain ⟨hQn,n1,n2⟩:=A6d hQ
 obtain ⟨p1,p2⟩:=B2 qv.c
 obtain ⟨p3,p4⟩:=B2 qv.o
 obtain ⟨p5,p6⟩:=B2 qv.m
 have len:∀{l:List Nd} {k:Bool} {D:Dom},(l=[]\/∃t,E7 D k t/\size t<=Sd 3/\l=t.nodes)->l.length<=300:=λ{l k D} hh=>by
  rcases hh with rfl|⟨t,_,h2,rfl⟩
  . simp
  . rw [Ao];exact Nat.le_trans h2 (by decide)
 have e10:=λhh (e:Bi h3 hh)=>Fh q wc wo wm hh (qv.By e) (by have:=len hQ.code;omega) (by have:=hQ.ord;omega) (by have:=len hQ.E9;omega)
 have e18:=λhh (e:Bi h3 hh)=>R1 ss q wc wo wm sv hh (hD3.By e) hl3 hV (qv.By e) hQ
 have e19:=λhh (e:Bi h3 hh)=>U5 ss q wc wo wm sv hh (hD3.By e) hl3 hV (qv.By e) hQ
 have A8v:=λhh (e:Bi h3 hh) ac ao am (qn:QV hh (Oa q) ac ao am)=>R1 ss (Oa q) ac ao am sv hh (hD3.By e) hl3 hV qn hQn
 have A8t:=λ{m}=>A8s (m:=m) hD3 hV (q:=q)
 have A8Y:AaF ss q≠[]:=by
  obtain ⟨a,a1,a2,_⟩:=hQ.pre.tbl
  have:=(hD3.d a a1).ne
  rw [AaF,<- a2,Agu hD3.nd a1]
  simp [this]
 have hcd:=AqB hQ.code
 have hmt:=AvP hQ.E9
 have qlc:∀hh,Fo wc hh=.ok (.int .i64 (q.code.length:Int)) hh:=λ_=>qv.c.Gs
 have qlm:∀hh,Fo wm hh=.ok (.int .i64 (q.E9.length:Int)) hh:=λ_=>qv.m.Gs
 replace hc3:=(show F5 _ from hc3)
 replace hcd:=(show F5 _ from hcd)
 replace hmt:=(show F5 _ from hmt)
 replace e10:=(show F5 _ from e10)
 replace e18:=(show F5 _ from e18)
 replace e19:=(show F5 _ from e19)
 replace A8v:=(show F5 _ from A8v)
 replace A8t:=(show F5 (∀{m:List Cl},m.map Px=(AaF ss q).map Px->Bbi ss q m) from A8t)
 replace A8Y:=(show F5 _ from A8Y)
 replace qv:=(show F5 (QV h3 q wc wo wm) from qv)
 clear Jz Mt Fh It ha hb hc hS e1 e2 e3 Aad Aae Ary l1 l2 l3 len R1 U5 hQ hQn hD hD3 hV q2
 refine wk ?_
 refine Fj ((show ∀hh (e:Bi h3 hh),_ from e10) _ M0) λv7 h7 e7 l7 AvU q7=>?_
 obtain ⟨ac,ao,am,rfl,qs⟩:=q7
 have g7:Ai h3 h7:=Ai.trans Ex e7
 simp only [C9] at l7 AvU
 have b7:=(AvU h3.nx om).trans (A2 ..)
 have nv:=qs.qv
 obtain ⟨r1,r2⟩:=B2 nv.c
 obtain ⟨r3,r4⟩:=B2 nv.o
 obtain ⟨r5,r6⟩:=B2 nv.m
 have nlc:∀hh,Fo ac hh=.ok (.int .i64 ((Oa q).code.length:Int)) hh:=λ_=>nv.c.Gs
 have nlm:∀hh,Fo am hh=.ok (.int .i64 ((Oa q).E9.length:Int)) hh:=λ_=>nv.m.Gs
 obtain ⟨za,ha1⟩:∃a:Int,(q.code.length:Int)=a:=⟨_,rfl⟩
 obtain ⟨zb,Qy⟩:∃a:Int,(q.E9.length:Int)=a:=⟨_,rfl⟩
 obtain ⟨zc,hc1⟩:∃a:Int,((Oa q).code.length:Int)=a:=⟨_,rfl⟩
 obtain ⟨zd,hd1⟩:∃a:Int,((Oa q).E9.length:Int)=a:=⟨_,rfl⟩
 have k1:decide (za<zc)=false:=df
 have k2:decide (zb<zd)=false:=df
 rw [ha1] at qlc
 rw [Qy] at qlm
 rw [hc1] at nlc
 rw [hd1] at nlm
 replace ha1:=(show F5 _ from ha1)
 replace Qy:=(show F5 _ from Qy)
 replace hc1:=(show F5 _ from hc1)
 replace hd1:=(show F5 _ from hd1)
 replace nv:=(show F5 (QV h7 (Oa q) ac ao am) from nv)
 clear e7 AvU qs e10
 refine wk ?_
 refine Fj ((show ∀hh (e:Bi h3 hh),_ from e18) _ M0) λv11 Kc e11 l11 A0e q11=>?_
 obtain rfl:v11=_:=q11
 simp only [C9] at l11 A0e
 have g11:Ai h7 Kc:=Ai.trans Ex e11
 have b11:=(A0e h7.nx om).trans (A2 ..)
 have c11:=(A0e h3.nx om).trans ((Aq _ _ _ om).trans ((Cq _ _ om).trans b7))
 clear e11 A0e e18 b7
 refine wk ?_
 refine Fj ((show ∀hh (e:Bi h3 hh) ac ao am (qn:QV hh (Oa q) ac ao am),_ from A8v) _ M0 ac ao am ((show QV h7 (Oa q) ac ao am from nv).By g11.keeps)) λv12 Gd e12 l12 A5T q12=>?_
 obtain rfl:v12=_:=q12
 have g12:Ai h7 Gd:=g11.trans e12
 have b12:=(A5T h7.nx om).trans b11
 have W0:=(A5T h3.nx om).trans c11
 clear e12 A5T A8v b11 c11
 refine wk ?_
 refine Fj ((show ∀hh (e:Bi h3 hh),_ from e19) _ (g7.trans g12).keeps) λcv It e13 l13 A5U q13=>?_
 obtain ⟨m,m1,m2,m3⟩:=q13
 have g13:Ai h7 It:=g12.trans e13
 have b13:=(A5U h7.nx om).trans b12
 have c13:=(A5U h3.nx om).trans W0
 obtain ⟨cd1,cd2,cd3,cd4⟩:=(show ∀{m:List Cl},m.map Px=(AaF ss q).map Px->Bbi ss q m from A8t) m1
 obtain ⟨u1,u2⟩:=B2 m2.r.sl
 have clc:∀hh,Fo cv hh=.ok (.int .i64 (m.length:Int)) hh:=λ_=>m2.r.sl.Gs
 have hml:m.length≠0:=by
  have h1:=congrArg List.length m1
  rw [List.length_map,List.length_map] at h1
  intro h2
  exact (show AaF ss q≠[] from A8Y) (List.length_eq_zero_iff.1 om)
 obtain ⟨ml,A9i⟩:∃a:Int,(m.length:Int)=a:=⟨_,rfl⟩
 rw [A9i] at clc
 have k3:decide (ml=0)=false:=df
 have hT:=U6 It.nx vc cv Lc m (It.new (tkC vc 0)) (AkJ (Sl.By (show Lf h3 vc Lc from hc3) (g7.trans g13).keeps) lc) (m2.r.By ((Ai.refl It).new _).keeps) (Sl.av m2.r.sl (Nat.le_refl _)) (λb off len cap z ex hv=>by
  obtain ⟨y1,y2⟩:=m3 b off len cap z ex hv
  refine ⟨Nat.lt_succ_of_lt y1,by omega,λk hk=>?_⟩
  rw [Cq _ _ om] at hk
  have:=y2 k hk
  omega) cd2
 replace hT:=(show F5 _ from hT)
 replace m2:=(show F5 (CsK It cv m) from m2)
 replace cd3:=(show F5 _ from cd3)
 replace cd4:=(show F5 _ from cd4)
 replace A9i:=(show F5 _ from A9i)
 clear e13 A5U e19 b12 W0 m1 m3 cd2 hml A8t A8Y hc3 U6
 refine wk ?_
 obtain ⟨vv,Nj,q42,t42,vs,w1,w2,w3⟩:=AeX (show D6 It.nx vc (It.new (tkC vc 0)) (Anf m) (ctx.call 20 [.ptr It.nx 0,cv] (It.new (tkC vc 0))) from hT)
 refine Ey q42 ?_
 have g42:Ai It Nj:=AzQ t42
 have b42:=(g42.Cf h7.nx (by have:=g13.lo;have:=l11;omega)).trans b13
 have c42:=(g42.Cf h3.nx (by have:=g13.lo;omega)).trans c13
 have F:EvF Nj cv vv m vs (AaR (AaF ss q)):=⟨(show CsK It cv m from m2).By g42.keeps,w3,w1,w2,cd1,cd3,cd4⟩
 have qv4:=(show QV h3 q wc wo wm from qv).By ((g7.trans g13).trans g42).keeps
 have nv4:=(show QV h7 (Oa q) ac ao am from nv).By (g13.trans g42).keeps
 have gA:Ai h Nj:=((g3.trans g7).trans g13).trans g42
 have lh7:h7.nx<Nj.nx:=by have:=g13.lo;have:=g42.lo;omega
 have lh3:h3.nx<Nj.nx:=by have:=g13.lo;have:=g42.lo;omega
 obtain ⟨i1,i2⟩:=B2 F.cs.r.sl
 obtain ⟨i3,i4⟩:=B2 F.vi
 have Bkj:=(show (q.code=[]/\Rn q.code=[])\/∃t,E7 (AaR (AaF ss q)) false t/\size t<=Sd 3/\q.code=t.nodes/\Rn q.code=(normal t).nodes from hcd)
 have A9j:=(show (q.E9=[]/\Tb q.E9=[])\/∃t,E7 (AaR (AaF ss q)) true t/\size t<=Sd 3/\q.E9=t.nodes/\(Tb q.E9=[]/\same (normal t) (fixed true)=true\/Tb q.E9=(normal t).nodes) from hmt)
 have hc2:=(show (q.code.length:Int)=za from ha1)
 have hm2:=(show (q.E9.length:Int)=zb from Qy)
 have hm3:=(show ((Tb q.E9).length:Int)=zd from hd1)
 have Aaw:∀t,E7 (AaR (AaF ss q)) false t->size t<=Sd 3->q.code=t.nodes->Rn q.code=(normal t).nodes->∃x,(∀hh,Bi Nj hh->Ah hh (λr _=>r=.int .i64 x) (ctx.call 21 [wc,cv,vv] hh))/\∀hh,Bi Nj hh->Ah hh (λr _=>r=.int .i64 x) (ctx.call 21 [ac,cv,vv] hh):=λt t1 t2 t3 t4=>by
  refine ⟨ev (Ag2 m vs) t,F.run ctx O8 t1 t2 (t3 ▸ qv4.c),?_⟩
  have:=F.run ctx O8 (lv:=ac) (Aaz t1) (Nat.le_trans (Agy t1).2 t2) (by have:=nv4.c;rw [show (Oa q).code=(normal t).nodes from t4] at this;exact this)
  rw [AaG F.ok t1] at this
  exact this
 have Aax:∀t,E7 (AaR (AaF ss q)) true t->size t<=Sd 3->q.E9=t.nodes->Tb q.E9=(normal t).nodes->∃x,(∀hh,Bi Nj hh->Ah hh (λr _=>r=.int .i64 x) (ctx.call 21 [wm,cv,vv] hh))/\∀hh,Bi Nj hh->Ah hh (λr _=>r=.int .i64 x) (ctx.call 21 [am,cv,vv] hh):=λt t1 t2 t3 t4=>by
  refine ⟨ev (Ag2 m vs) t,F.run ctx O8 t1 t2 (t3 ▸ qv4.m),?_⟩
  have:=F.run ctx O8 (lv:=am) (Aaz t1) (Nat.le_trans (Agy t1).2 t2) (by have:=nv4.m;rw [show (Oa q).E9=(normal t).nodes from t4] at this;exact this)
  rw [AaG F.ok t1] at this
  exact this
 have Aay:∀t,E7 (AaR (AaF ss q)) true t->size t<=Sd 3->q.E9=t.nodes->same (normal t) (fixed true)=true->∀hh,Bi Nj hh->Ah hh (λr _=>r=.int .i64 1) (ctx.call 21 [wm,cv,vv] hh):=λt t1 t2 t3 t4=>by
  have:=F.run ctx O8 t1 t2 (t3 ▸ qv4.m)
  rw [<- AaG F.ok t1,A80 (Aaz t1) t4] at this
  exact this
 have hp:∀t:Tr,0<t.nodes.length:=λt=>by rw [Ao];exact size_pos t
 replace Aaw:=(show F5 _ from Aaw)
 replace Aax:=(show F5 _ from Aax)
 replace Aay:=(show F5 _ from Aay)
 replace A9j:=(show F5 _ from A9j)
 replace hm2:=(show F5 _ from hm2)
 replace hm3:=(show F5 _ from hm3)
 replace hp:=(show F5 _ from hp)
 clear hT t42 w1 w2 w3 F qv4 nv4 g42 b13 c13 m2 cd1 cd3 cd4 qv nv hcd hmt ha1 Qy hc1 hd1 O8 la lb lc q42 g3 g7 g11 g12 g13 k1 k2 k3 clc A9i n1 n2 l7 l11 l12 l13
 rcases Bkj with ⟨x1,x2⟩|⟨t,t1,t2,t3,t4⟩
 . rw [x1] at hc2
   obtain rfl:0=za:=hc2
   clear x1 x2 Aaw
   have gz:=Ai.refl Nj
   rcases (show (q.E9=[]/\Tb q.E9=[])\/∃t,E7 (AaR (AaF ss q)) true t/\size t<=Sd 3/\q.E9=t.nodes/\(Tb q.E9=[]/\same (normal t) (fixed true)=true\/Tb q.E9=(normal t).nodes) from A9j) with ⟨y1,y2⟩|⟨t,t1,t2,t3,⟨t4,t5⟩|t4⟩
   . rw [y1] at hm2
     rw [y2] at hm3
     obtain rfl:0=zb:=hm2
     obtain rfl:0=zd:=hm3
     clear y1 y2 Aax Aay
     refine wd ?_
     exact zr Ex rfl
   . have hE:=(show ∀t,E7 (AaR (AaF ss q)) true t->size t<=Sd 3->q.E9=t.nodes->same (normal t) (fixed true)=true->∀hh,Bi Nj hh->Ah hh (λr _=>r=.int .i64 1) (ctx.call 21 [wm,cv,vv] hh) from Aay) t t1 t2 t3 t5
     have h5:=(show ∀t:Tr,0<t.nodes.length from hp) t
     have k5:decide (zb=0)=false:=decide_eq_false (by have:(q.E9.length:Int)=zb:=hm2;rw [t3] at this;omega)
     rw [t4] at hm3
     obtain rfl:0=zd:=hm3
     replace hE:=(show F5 _ from hE)
     clear Aax Aay t1 t2 t3 t4 t5 h5 hm2
     refine wd ?_
     refine Fj ((show ∀hh,Bi Nj hh->Ah hh (λr _=>r=.int .i64 1) (ctx.call 21 [wm,cv,vv] hh) from hE) _ gz.keeps) λv5 h5 e5 l5 Az4 q5=>?_
     subst q5
     refine wk ?_
     exact zr Ex rfl
   . obtain ⟨x,hE,hF⟩:=(show ∀t,E7 (AaR (AaF ss q)) true t->size t<=Sd 3->q.E9=t.nodes->Tb q.E9=(normal t).nodes->∃x,(∀hh,Bi Nj hh->Ah hh (λr _=>r=.int .i64 x) (ctx.call 21 [wm,cv,vv] hh))/\∀hh,Bi Nj hh->Ah hh (λr _=>r=.int .i64 x) (ctx.call 21 [am,cv,vv] hh) from Aax) t t1 t2 t3 t4
     have h5:=(show ∀t:Tr,0<t.nodes.length from hp) t
     have h6:=(show ∀t:Tr,0<t.nodes.length from hp) (normal t)
     have k5:decide (zb=0)=false:=decide_eq_false (by have:(q.E9.length:Int)=zb:=hm2;rw [t3] at this;omega)
     have k6:decide (0<zd)=true:=decide_eq_true (by have:((Tb q.E9).length:Int)=zd:=hm3;rw [t4] at this;omega)
     replace hE:=(show F5 _ from hE)
     replace hF:=(show F5 _ from hF)
     clear Aax Aay t1 t2 t3 t4 h5 h6 hm2 hm3
     refine wd ?_
     refine Fj ((show ∀hh,Bi Nj hh->Ah hh (λr _=>r=.int .i64 x) (ctx.call 21 [am,cv,vv] hh) from hF) _ gz.keeps) λv5 h5 e5 l5 Az4 q5=>?_
     subst q5
     have c5:=(Az4 h3.nx om).trans c42
     refine wk ?_
     refine Fj ((show ∀hh,Bi Nj hh->Ah hh (λr _=>r=.int .i64 x) (ctx.call 21 [wm,cv,vv] hh) from hE) _ (gz.trans e5).keeps) λv6 h6 e6 l6 Axm q6=>?_
     subst q6
     refine wk ?_
     exact zr Ex rfl
 . obtain ⟨x,hE,hF⟩:=(show ∀t,E7 (AaR (AaF ss q)) false t->size t<=Sd 3->q.code=t.nodes->Rn q.code=(normal t).nodes->∃x,(∀hh,Bi Nj hh->Ah hh (λr _=>r=.int .i64 x) (ctx.call 21 [wc,cv,vv] hh))/\∀hh,Bi Nj hh->Ah hh (λr _=>r=.int .i64 x) (ctx.call 21 [ac,cv,vv] hh) from Aaw) t t1 t2 t3 t4
   have h5:=(show ∀t:Tr,0<t.nodes.length from hp) t
   have k5:decide (0<za)=true:=decide_eq_true (by rw [t3] at hc2;omega)
   replace hE:=(show F5 _ from hE)
   replace hF:=(show F5 _ from hF)
   clear Aaw t1 t2 t3 t4 h5 hc2
   refine wk ?_
   refine Fj ((show ∀hh,Bi Nj hh->Ah hh (λr _=>r=.int .i64 x) (ctx.call 21 [wc,cv,vv] hh) from hE) _ M0) λv5 h5 e5 l5 Az4 q5=>?_
   subst q5
   have eqt:=Ai.quiet e5
   try simp only [C9] at l5 Az4 eqt
   have b5:=(Az4 h7.nx om).trans b42
   have c5:=(Az4 h3.nx om).trans c42
   refine wk ?_
   refine Fj ((show ∀hh,Bi Nj hh->Ah hh (λr _=>r=.int .i64 x) (ctx.call 21 [ac,cv,vv] hh) from hF) _ M0) λv6 h6 e6 l6 Axm q6=>?_
   subst q6
   have BfN:=Ai.quiet e6
   try simp only [C9] at l6 Axm BfN
   refine wd ?_
   generalize hz0:Be _ _=hz
   have gz:Ai Nj hz:=by rw [<- hz0];exact Ex
   have cz:=(gz.Cf h3.nx lh3).trans c42
   have bz:=(gz.Cf h7.nx lh7).trans b42
   have gl:=gz.lo
   have gAz:=gA.trans gz
   clear hz0 c42 b42 b5 c5 eqt BfN e5 e6 Az4 Axm
   rcases (show (q.E9=[]/\Tb q.E9=[])\/∃t,E7 (AaR (AaF ss q)) true t/\size t<=Sd 3/\q.E9=t.nodes/\(Tb q.E9=[]/\same (normal t) (fixed true)=true\/Tb q.E9=(normal t).nodes) from A9j) with ⟨y1,y2⟩|⟨t,t1,t2,t3,⟨t4,t5⟩|t4⟩
   . rw [y1] at hm2
     rw [y2] at hm3
     obtain rfl:0=zb:=hm2
     obtain rfl:0=zd:=hm3
     clear y1 y2 Aax Aay
     refine wk ?_
     exact zr Ex rfl
   . have hE:=(show ∀t,E7 (AaR (AaF ss q)) true t->size t<=Sd 3->q.E9=t.nodes->same (normal t) (fixed true)=true->∀hh,Bi Nj hh->Ah hh (λr _=>r=.int .i64 1) (ctx.call 21 [wm,cv,vv] hh) from Aay) t t1 t2 t3 t5
     have h5:=(show ∀t:Tr,0<t.nodes.length from hp) t
     have k5:decide (zb=0)=false:=decide_eq_false (by have:(q.E9.length:Int)=zb:=hm2;rw [t3] at this;omega)
     rw [t4] at hm3
     obtain rfl:0=zd:=hm3
     replace hE:=(show F5 _ from hE)
     clear Aax Aay t1 t2 t3 t4 t5 h5 hm2
     refine wk ?_
     refine Fj ((show ∀hh,Bi Nj hh->Ah hh (λr _=>r=.int .i64 1) (ctx.call 21 [wm,cv,vv] hh) from hE) _ gz.keeps) λv5 h5 e5 l5 Az4 q5=>?_
     subst q5
     refine wk ?_
     exact zr Ex rfl
   . obtain ⟨x,hE,hF⟩:=(show ∀t,E7 (AaR (AaF ss q)) true t->size t<=Sd 3->q.E9=t.nodes->Tb q.E9=(normal t).nodes->∃x,(∀hh,Bi Nj hh->Ah hh (λr _=>r=.int .i64 x) (ctx.call 21 [wm,cv,vv] hh))/\∀hh,Bi Nj hh->Ah hh (λr _=>r=.int .i64 x) (ctx.call 21 [am,cv,vv] hh) from Aax) t t1 t2 t3 t4
     have h5:=(show ∀t:Tr,0<t.nodes.length from hp) t
     have h6:=(show ∀t:Tr,0<t.nodes.length from hp) (normal t)
     have k5:decide (zb=0)=false:=decide_eq_false (by have:(q.E9.length:Int)=zb:=hm2;rw [t3] at this;omega)
     have k6:decide (0<zd)=true:=decide_eq_true (by have:((Tb q.E9).length:Int)=zd:=hm3;rw [t4] at this;omega)
     replace hE:=(show F5 _ from hE)
     replace hF:=(show F5 _ from hF)
     clear Aax Aay t1 t2 t3 t4 h5 h6 hm2 hm3
     refine wk ?_
     refine Fj ((show ∀hh,Bi Nj hh->Ah hh (λr _=>r=.int .i64 x) (ctx.call 21 [am,cv,vv] hh) from hF) _ gz.keeps) λv5 h5 e5 l5 Az4 q5=>?_
     subst q5
     have c5:=(Az4 h3.nx om).trans cz
     refine wk ?_
     refine Fj ((show ∀hh,Bi Nj hh->Ah hh (λr _=>r=.int .i64 x) (ctx.call 21 [wm,cv,vv] hh) from hE) _ (gz.trans e5).keeps) λv6 h6 e6 l6 Axm q6=>?_
     subst q6
     refine wk ?_
     exact zr Ex rfl
end Go.Proofs
