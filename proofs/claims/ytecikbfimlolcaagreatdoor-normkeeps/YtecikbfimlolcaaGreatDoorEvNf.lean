/- build: a list of nodes read as an expression. -/
import Derived.Test.YtecikbfimlolcaaGreatDoorEvNd
set_option linter.all false
set_option maxRecDepth 100000
noncomputable section
namespace Go.Proofs
open Go Go.Ev Go.Nm Tryz Go.Ev.Sx
attribute [local irreducible] Aa Al Af Ad
variable [Ii]
variable (ctx:Ac) (N:Nat)
theorem Azu (Ov:Ad5 ctx) {h0 h:H} {bp m:Nat} {st:List Tr} {x:Nd} (hx:x.op=15) (hb:Ew h0.nx h bp st) (he:Sx.Ext m h0 h) (hl:h0.nx+m+20<=Bq) (Fc:st.length<=40000):
 Cb (m+10) h0 (Vl h0.nx bp (Fa st x)) (Ay prog ctx N false 63 [.ptr bp 0,.agg (Bw x)] h):=by
 have hp2:=hb.p2
 have AmZ:=he.hi
 have Aq6:=he.lo
 have Lp:Fa st x=(match Gf st [decide (x.op=15)||decide (x.op=16),decide (x.op=15)||decide (x.op=16)] with|some (r,[a,b])=>some (r++[.two x.op a b])|_=>none):=by unfold Fa;rw [if_neg om,if_neg om,if_neg om];rfl
 rw [Lp,e63]
 have e1:=he.new (.cells (Bw x) 32 .exact) om
 have Qy:=hb.ext ((Sx.Ext.refl 0 h).new (.cells (Bw x) 32 .exact) om)
 have hg1:(h.new (.cells (Bw x) 32 .exact)).m.get h.nx=.cells (Bw x) 32 .exact:=A6 _ om
 have hn1:(h.new (.cells (Bw x) 32 .exact)).nx=h.nx+1:=rfl
 refine Ag (Hg ..) ?_
 generalize h.new (.cells (Bw x) 32 .exact)=h4 at *
 have hd:(decide (x.op=15)||decide (x.op=16))=true:=by simp [hx]
 refine xs (aa hg1 (aa Bw.eq_1 hx)) ?_
 rw [hd]
 have e2:=e1.new (.cells [.bool true,.bool true] 4 .exact) om
 have e2':=(Sx.Ext.refl 0 h4).new (.cells [.bool true,.bool true] 4 .exact) om
 have hw:Afc (h4.new (.cells [.bool true,.bool true] 4 .exact)) (.sl h4.nx 0 2 2 1 true) [true,true]:=⟨.inr ⟨h4.nx,0,2,true,[.bool true,.bool true],4,.exact,rfl,Nat.le_refl _,A6 _ om,trivial,by show h4.nx<h4.nx+1;omega,by simp,rfl⟩⟩
 have hg5:(h4.new (.cells [.bool true,.bool true] 4 .exact)).m.get h.nx=.cells (Bw x) 32 .exact:=by rw [e2'.Cf _ om];exact hg1
 refine Jh (Ov (Qy.ext e2') (by simp) hw e2 (by show h4.nx+1+3<=Bq;omega) Fc (by simp)) λr Kr e3 Mh=>?_
 obtain ⟨⟨AhB,Pa⟩,Mh⟩:=Mh
 have Ac3:Kr.m.get h.nx=.cells (Bw x) 32 .exact:=by rw [Pa _ (by show h.nx<h4.nx+1;omega) om];exact hg5
 have hhi:=e3.hi
 rcases Mh with ⟨v,rfl,hle,heq,Zc,G8⟩|⟨v,rfl,Ac5⟩
 . have hlen:(st.drop (st.length - [true,true].length)).length=2:=by rw [List.length_drop];simp at hle ⊢;omega
   obtain ⟨a,b,ha⟩:∃a b,st.drop (st.length - [true,true].length)=[a,b]:=AyZ hlen
   have Hz:Gf st [true,true]=some (st.take (st.length - [true,true].length),[a,b]):=by unfold Gf;rw [if_pos ⟨hle,heq⟩,ha]
   rw [Hz]
   rw [ha] at Zc
   obtain ⟨b0,o0,cs0,ee0,k0,p10,p20,p30,p40,p50⟩:=Ia Zc (i:=0) (x:=a) rfl
   have p60:∀h1,Gc 1 v (.int .i64 0) h1=.ok (.ptr b0 o0) h1:=p10
   have p70:∀hh,rdO (.cells cs0 ee0 k0) hh=some cs0:=λhh=>Dc p30
   obtain ⟨b1,o1,cs1,ee1,k1,p11,p21,p31,p41,p51⟩:=Ia Zc (i:=1) (x:=b) rfl
   have p61:∀h1,Gc 1 v (.int .i64 1) h1=.ok (.ptr b1 o1) h1:=p11
   have p71:∀hh,rdO (.cells cs1 ee1 k1) hh=some cs1:=λhh=>Dc p31
   obtain ⟨sv,q1,q2⟩:=G8.at'
   refine xs (aa Ac3 (aa q1 (aa p60 (aa p20 (aa p70 (aa p50 (aa p61 (aa p21 (aa p71 (aa p51 Bw.eq_1)))))))))) ?_
   refine Od (h:=Kr) (t:=.two x.op a b) G8 q1 e3.Ab om (by rw [List.length_take];omega) λsv2 h2 f1 f2 f3=>?_
   refine Jj ?_ ?_
   . refine Lm _ λe he=>?_
     simp only [List.mem_cons,List.not_mem_nil,or_false] at he
     rcases he with rfl|rfl|rfl|rfl|rfl|rfl|rfl|rfl|rfl|rfl|rfl|rfl|rfl|rfl|rfl|rfl|rfl|rfl|rfl|rfl
     all_goals first|exact .inl rfl|exact .inr (by simp (disch:=decide) only [Fz,Hw,Ci,Ar,Ax,Bool.and_self])
   . refine B0 (f1.Be _ λz hz=>?_) om ⟨rfl,f3.Be _⟩
     simp only [Ap,At,List.mem_append,List.not_mem_nil,false_or] at hz
     repeat' (rcases hz with hz|hz)
     all_goals first|exact (AcR (Ck _ _ _ hz)).elim|exact .inr (f2 z (Ck _ _ _ hz))|exact .inr (Akw hb.p1 (Ck _ _ _ hz))|exact e3.lg z hz
 . have Hz:Gf st [true,true]=none:=by unfold Gf;rw [if_neg Ac5]
   rw [Hz]
   refine xs trivial ?_
   exact B0 e3 om rfl
theorem A4H (Ov:Ad5 ctx) {h0 h:H} {bp m:Nat} {st:List Tr} {x:Nd} (hx:x.op=16) (hb:Ew h0.nx h bp st) (he:Sx.Ext m h0 h) (hl:h0.nx+m+20<=Bq) (Fc:st.length<=40000):
 Cb (m+10) h0 (Vl h0.nx bp (Fa st x)) (Ay prog ctx N false 63 [.ptr bp 0,.agg (Bw x)] h):=by
 have hp2:=hb.p2
 have AmZ:=he.hi
 have Aq6:=he.lo
 have Lp:Fa st x=(match Gf st [decide (x.op=15)||decide (x.op=16),decide (x.op=15)||decide (x.op=16)] with|some (r,[a,b])=>some (r++[.two x.op a b])|_=>none):=by unfold Fa;rw [if_neg om,if_neg om,if_neg om];rfl
 rw [Lp,e63]
 have e1:=he.new (.cells (Bw x) 32 .exact) om
 have Qy:=hb.ext ((Sx.Ext.refl 0 h).new (.cells (Bw x) 32 .exact) om)
 have hg1:(h.new (.cells (Bw x) 32 .exact)).m.get h.nx=.cells (Bw x) 32 .exact:=A6 _ om
 have hn1:(h.new (.cells (Bw x) 32 .exact)).nx=h.nx+1:=rfl
 refine Ag (Hg ..) ?_
 generalize h.new (.cells (Bw x) 32 .exact)=h4 at *
 have hd:(decide (x.op=15)||decide (x.op=16))=true:=by simp [hx]
 refine xs (aa hg1 (aa Bw.eq_1 hx)) ?_
 rw [hd]
 have e2:=e1.new (.cells [.bool true,.bool true] 4 .exact) om
 have e2':=(Sx.Ext.refl 0 h4).new (.cells [.bool true,.bool true] 4 .exact) om
 have hw:Afc (h4.new (.cells [.bool true,.bool true] 4 .exact)) (.sl h4.nx 0 2 2 1 true) [true,true]:=⟨.inr ⟨h4.nx,0,2,true,[.bool true,.bool true],4,.exact,rfl,Nat.le_refl _,A6 _ om,trivial,by show h4.nx<h4.nx+1;omega,by simp,rfl⟩⟩
 have hg5:(h4.new (.cells [.bool true,.bool true] 4 .exact)).m.get h.nx=.cells (Bw x) 32 .exact:=by rw [e2'.Cf _ om];exact hg1
 refine Jh (Ov (Qy.ext e2') (by simp) hw e2 (by show h4.nx+1+3<=Bq;omega) Fc (by simp)) λr Kr e3 Mh=>?_
 obtain ⟨⟨AhB,Pa⟩,Mh⟩:=Mh
 have Ac3:Kr.m.get h.nx=.cells (Bw x) 32 .exact:=by rw [Pa _ (by show h.nx<h4.nx+1;omega) om];exact hg5
 have hhi:=e3.hi
 rcases Mh with ⟨v,rfl,hle,heq,Zc,G8⟩|⟨v,rfl,Ac5⟩
 . have hlen:(st.drop (st.length - [true,true].length)).length=2:=by rw [List.length_drop];simp at hle ⊢;omega
   obtain ⟨a,b,ha⟩:∃a b,st.drop (st.length - [true,true].length)=[a,b]:=AyZ hlen
   have Hz:Gf st [true,true]=some (st.take (st.length - [true,true].length),[a,b]):=by unfold Gf;rw [if_pos ⟨hle,heq⟩,ha]
   rw [Hz]
   rw [ha] at Zc
   obtain ⟨b0,o0,cs0,ee0,k0,p10,p20,p30,p40,p50⟩:=Ia Zc (i:=0) (x:=a) rfl
   have p60:∀h1,Gc 1 v (.int .i64 0) h1=.ok (.ptr b0 o0) h1:=p10
   have p70:∀hh,rdO (.cells cs0 ee0 k0) hh=some cs0:=λhh=>Dc p30
   obtain ⟨b1,o1,cs1,ee1,k1,p11,p21,p31,p41,p51⟩:=Ia Zc (i:=1) (x:=b) rfl
   have p61:∀h1,Gc 1 v (.int .i64 1) h1=.ok (.ptr b1 o1) h1:=p11
   have p71:∀hh,rdO (.cells cs1 ee1 k1) hh=some cs1:=λhh=>Dc p31
   obtain ⟨sv,q1,q2⟩:=G8.at'
   refine xs (aa Ac3 (aa q1 (aa p60 (aa p20 (aa p70 (aa p50 (aa p61 (aa p21 (aa p71 (aa p51 Bw.eq_1)))))))))) ?_
   refine Od (h:=Kr) (t:=.two x.op a b) G8 q1 e3.Ab om (by rw [List.length_take];omega) λsv2 h2 f1 f2 f3=>?_
   refine Jj ?_ ?_
   . refine Lm _ λe he=>?_
     simp only [List.mem_cons,List.not_mem_nil,or_false] at he
     rcases he with rfl|rfl|rfl|rfl|rfl|rfl|rfl|rfl|rfl|rfl|rfl|rfl|rfl|rfl|rfl|rfl|rfl|rfl|rfl|rfl
     all_goals first|exact .inl rfl|exact .inr (by simp (disch:=decide) only [Fz,Hw,Ci,Ar,Ax,Bool.and_self])
   . refine B0 (f1.Be _ λz hz=>?_) om ⟨rfl,f3.Be _⟩
     simp only [Ap,At,List.mem_append,List.not_mem_nil,false_or] at hz
     repeat' (rcases hz with hz|hz)
     all_goals first|exact (AcR (Ck _ _ _ hz)).elim|exact .inr (f2 z (Ck _ _ _ hz))|exact .inr (Akw hb.p1 (Ck _ _ _ hz))|exact e3.lg z hz
 . have Hz:Gf st [true,true]=none:=by unfold Gf;rw [if_neg Ac5]
   rw [Hz]
   refine xs trivial ?_
   exact B0 e3 om rfl
theorem Azx (Ov:Ad5 ctx) {h0 h:H} {bp m:Nat} {st:List Tr} {x:Nd} (hx:¬ x.op<=3/\x.op≠7/\x.op≠17/\x.op≠8/\x.op≠15/\x.op≠16) (hb:Ew h0.nx h bp st) (he:Sx.Ext m h0 h) (hl:h0.nx+m+20<=Bq) (Fc:st.length<=40000):
 Cb (m+10) h0 (Vl h0.nx bp (Fa st x)) (Ay prog ctx N false 63 [.ptr bp 0,.agg (Bw x)] h):=by
 have hp2:=hb.p2
 have AmZ:=he.hi
 have Aq6:=he.lo
 have Lp:Fa st x=(match Gf st [decide (x.op=15)||decide (x.op=16),decide (x.op=15)||decide (x.op=16)] with|some (r,[a,b])=>some (r++[.two x.op a b])|_=>none):=by unfold Fa;rw [if_neg om,if_neg om,if_neg om];rfl
 rw [Lp,e63]
 have e1:=he.new (.cells (Bw x) 32 .exact) om
 have Qy:=hb.ext ((Sx.Ext.refl 0 h).new (.cells (Bw x) 32 .exact) om)
 have hg1:(h.new (.cells (Bw x) 32 .exact)).m.get h.nx=.cells (Bw x) 32 .exact:=A6 _ om
 have hn1:(h.new (.cells (Bw x) 32 .exact)).nx=h.nx+1:=rfl
 refine Ag (Hg ..) ?_
 generalize h.new (.cells (Bw x) 32 .exact)=h4 at *
 have hd:(decide (x.op=15)||decide (x.op=16))=false:=by simp [hx.1,hx.2.1,hx.2.2.1,hx.2.2.2.1,hx.2.2.2.2.1,hx.2.2.2.2.2]
 refine xs (aa hg1 (aa Bw.eq_1 (aa hx.1 (aa hx.2.1 (aa hx.2.2.1 (aa hx.2.2.2.1 (aa hx.2.2.2.2.1 hx.2.2.2.2.2))))))) ?_
 rw [hd]
 have e2:=e1.new (.cells [.bool false,.bool false] 4 .exact) om
 have e2':=(Sx.Ext.refl 0 h4).new (.cells [.bool false,.bool false] 4 .exact) om
 have hw:Afc (h4.new (.cells [.bool false,.bool false] 4 .exact)) (.sl h4.nx 0 2 2 1 true) [false,false]:=⟨.inr ⟨h4.nx,0,2,true,[.bool false,.bool false],4,.exact,rfl,Nat.le_refl _,A6 _ om,trivial,by show h4.nx<h4.nx+1;omega,by simp,rfl⟩⟩
 have hg5:(h4.new (.cells [.bool false,.bool false] 4 .exact)).m.get h.nx=.cells (Bw x) 32 .exact:=by rw [e2'.Cf _ om];exact hg1
 refine Jh (Ov (Qy.ext e2') (by simp) hw e2 (by show h4.nx+1+3<=Bq;omega) Fc (by simp)) λr Kr e3 Mh=>?_
 obtain ⟨⟨AhB,Pa⟩,Mh⟩:=Mh
 have Ac3:Kr.m.get h.nx=.cells (Bw x) 32 .exact:=by rw [Pa _ (by show h.nx<h4.nx+1;omega) om];exact hg5
 have hhi:=e3.hi
 rcases Mh with ⟨v,rfl,hle,heq,Zc,G8⟩|⟨v,rfl,Ac5⟩
 . have hlen:(st.drop (st.length - [false,false].length)).length=2:=by rw [List.length_drop];simp at hle ⊢;omega
   obtain ⟨a,b,ha⟩:∃a b,st.drop (st.length - [false,false].length)=[a,b]:=AyZ hlen
   have Hz:Gf st [false,false]=some (st.take (st.length - [false,false].length),[a,b]):=by unfold Gf;rw [if_pos ⟨hle,heq⟩,ha]
   rw [Hz]
   rw [ha] at Zc
   obtain ⟨b0,o0,cs0,ee0,k0,p10,p20,p30,p40,p50⟩:=Ia Zc (i:=0) (x:=a) rfl
   have p60:∀h1,Gc 1 v (.int .i64 0) h1=.ok (.ptr b0 o0) h1:=p10
   have p70:∀hh,rdO (.cells cs0 ee0 k0) hh=some cs0:=λhh=>Dc p30
   obtain ⟨b1,o1,cs1,ee1,k1,p11,p21,p31,p41,p51⟩:=Ia Zc (i:=1) (x:=b) rfl
   have p61:∀h1,Gc 1 v (.int .i64 1) h1=.ok (.ptr b1 o1) h1:=p11
   have p71:∀hh,rdO (.cells cs1 ee1 k1) hh=some cs1:=λhh=>Dc p31
   obtain ⟨sv,q1,q2⟩:=G8.at'
   refine xs (aa Ac3 (aa q1 (aa p60 (aa p20 (aa p70 (aa p50 (aa p61 (aa p21 (aa p71 (aa p51 Bw.eq_1)))))))))) ?_
   refine Od (h:=Kr) (t:=.two x.op a b) G8 q1 e3.Ab om (by rw [List.length_take];omega) λsv2 h2 f1 f2 f3=>?_
   refine Jj ?_ ?_
   . refine Lm _ λe he=>?_
     simp only [List.mem_cons,List.not_mem_nil,or_false] at he
     rcases he with rfl|rfl|rfl|rfl|rfl|rfl|rfl|rfl|rfl|rfl|rfl|rfl|rfl|rfl|rfl|rfl|rfl|rfl|rfl|rfl
     all_goals first|exact .inl rfl|exact .inr (by simp (disch:=decide) only [Fz,Hw,Ci,Ar,Ax,Bool.and_self])
   . refine B0 (f1.Be _ λz hz=>?_) om ⟨rfl,f3.Be _⟩
     simp only [Ap,At,List.mem_append,List.not_mem_nil,false_or] at hz
     repeat' (rcases hz with hz|hz)
     all_goals first|exact (AcR (Ck _ _ _ hz)).elim|exact .inr (f2 z (Ck _ _ _ hz))|exact .inr (Akw hb.p1 (Ck _ _ _ hz))|exact e3.lg z hz
 . have Hz:Gf st [false,false]=none:=by unfold Gf;rw [if_neg Ac5]
   rw [Hz]
   refine xs trivial ?_
   exact B0 e3 om rfl
theorem n63 (Ov:Ad5 ctx) {h0 h:H} {bp m:Nat} {st:List Tr} {x:Nd} (hb:Ew h0.nx h bp st) (he:Sx.Ext m h0 h) (hl:h0.nx+m+20<=Bq) (Fc:st.length<=40000):
 Cb (m+10) h0 (Vl h0.nx bp (Fa st x)) (Ay prog ctx N false 63 [.ptr bp 0,.agg (Bw x)] h):=by
 by_cases h1:x.op<=3
 . exact Auq ctx N h1 hb he hl Fc
 by_cases h2:x.op=7
 . exact Azv ctx N Ov h2 hb he hl Fc
 by_cases h3:x.op=17
 . exact Azw ctx N Ov h3 hb he hl Fc
 by_cases h4:x.op=8
 . exact A4G ctx N Ov h4 hb he hl Fc
 by_cases h5:x.op=15
 . exact Azu ctx N Ov h5 hb he hl Fc
 by_cases h6:x.op=16
 . exact A4H ctx N Ov h6 hb he hl Fc
 exact Azx ctx N Ov ⟨h1,h2,h3,h4,h5,h6⟩ hb he hl Fc
def AcU (l:List Nd) (j:Nat):Int:=match l[j]? with|some y=>y.op|none=>0
def Qt (x:Nd):Bool:=decide (x.op<1)||decide (17<x.op)||(!decide (x.n=0)&&!decide (x.op=1))||(!decide (x.Zn=[])&&!decide (x.op=2)&&!decide (x.op=3))
def Ou (l:List Nd) (i:Nat) (x:Nd):Bool:=decide (x.op=3)&&(decide (i=0)||!decide (AcU l (i - 1)=2)||decide (l.length<=i+1)||(!decide (AcU l (i+1)=9)&&!decide (AcU l (i+1)=10)))
def Dm (l:List Nd):List Tr->Nat->List Nd->Option (List Tr)
 |st,_,[]=>some st
 |st,i,x::rest=>if Qt x||Ou l i x then none else match Fa st x with|some U0=>Dm l U0 (i+1) rest|none=>none
def Je (l:List Nd) (c:Bool):Option Tr:=match Dm l [] 0 l with|some [t]=>if F4 t=c then some t else none|_=>none
abbrev H63:Prop:=∀{h0 h:H} {bp m:Nat} {st:List Tr} {x:Nd},Ew h0.nx h bp st->Sx.Ext m h0 h->h0.nx+m+20<=Bq->st.length<=40000->Cb (m+10) h0 (Vl h0.nx bp (Fa st x)) (ctx.call 63 [.ptr bp 0,.agg (Bw x)] h)
theorem Arn {h:H} {v:AV} {l:List Nd} (hv:Zi h v l) {j:Nat} {y:Nd} (hj:l[j]?=some y):
 ∃b o cs e k,(∀h1,Gc 3 v (.int .i64 (j:Int)) h1=.ok (.ptr b o) h1)/\h.m.get b=.cells cs e k/\(∀hh,rdO (.cells cs e k) hh=some cs)/\b<h.nx/\cs[o]?=some (.int .i64 y.op)/\o+3<=cs.length/\(cs.drop o).take 3=Bw y:=by
 have hjl:=(List.getElem?_eq_some_iff.1 hj).1
 obtain ⟨b,o,cs,e,k,p1,p2,p3,p4,p5,p6⟩:=hv.ia hjl
 have hl:l=l.take j++y::l.drop (j+1):=by
  have:=List.getElem?_eq_some_iff.1 hj
  obtain ⟨h1,h2⟩:=this
  rw [<- h2,<- List.drop_eq_getElem_cons h1,List.take_append_drop]
 have h7:=Afy l (l.take j) y (l.drop (j+1)) hl
 rw [List.length_take,Nat.min_eq_left om] at h7
 rw [h7] at p6
 refine ⟨b,o,cs,e,k,p1,p2,λhh=>Dc p3,p4,?_,p5,p6⟩
 have h8:=congrArg (λq=>q[0]?) p6
 simpa [List.getElem?_take,List.getElem?_drop] using h8
def W8 (o:Option Tr) (v:AV) (h:H):Prop:=v=Yy o
theorem AbP {st U0:List Tr} {x:Nd} (h:Fa st x=some U0):U0.length<=st.length+1:=by
 have hp:∀(ts:List Bool) (r q:List Tr),Gf st ts=some (r,q)->r.length<=st.length:=by
  intro ts r q hq
  unfold Gf at hq
  split at hq
  . cases hq;simp [List.length_take]
  . cases hq
 unfold Fa at h
 split at h
 . cases h;simp
 . split at h
   . split at h
     . rename_i r a hq;cases h;have:=hp _ _ _ hq;simp;omega
     . cases h
   . split at h
     . split at h
       . rename_i r c a b hq;cases h;have:=hp _ _ _ hq;simp;omega
       . cases h
     . split at h
       . rename_i r a b hq;cases h;have:=hp _ _ _ hq;simp;omega
       . cases h
theorem Azc (h63:H63 ctx) (h64:H64 ctx) (c:Bool) (l:List Nd) (hlen:l.length<=3000) {h0:H} {v:AV} {bp M:Nat} (hv:Zi h0 v l) (AeB:h0.nx+M<=Bq):
 ∀(rest pre:List Nd) (st:List Tr) (h:H) (m:Nat) (f0:L2) (n1:Nat),l=pre++rest->rest.length+1<=n1->Sx.Ext m h0 h->m+20 * rest.length+20<=M->Ew h0.nx h bp st->st.length<=pre.length ->
  Cb M h0 (W8 (match Dm l st pre.length rest with|some [t]=>if F4 t=c then some t else none|_=>none)) (Alg ctx N n1 v (.bool c) (.ptr bp 0) v (.int .i64 (l.length:Int)) (.int .i64 (pre.length:Int)) f0 h):=by
 intro rest
 induction rest with
 |nil=>
  intro pre st h m f0 n1 Hk hn he hm hb Vt
  obtain ⟨n2,rfl⟩:∃n2,n1=n2+1:=⟨n1 - 1,by omega⟩
  have Z1:pre.length=l.length:=by rw [Hk];simp
  obtain ⟨sv,q1,q2⟩:=hb.at'
  rw [Ajh]
  refine Ag (Hf ..) ?_
  rw [show decide ((pre.length:Int)<(l.length:Int))=false by simp [Z1],Dq]
  have Z3:∀h1:H,Fo sv h1=.ok (.int .i64 (st.length:Int)) h1:=by
   intro h1
   rcases q2 with ⟨rfl,rfl⟩|⟨b,cap,c,k,n',rfl,_⟩<;>rfl
  by_cases h1:st.length=1
  . obtain ⟨t,rfl⟩:∃t,st=[t]:=List.length_eq_one_iff.1 h1
    rcases q2 with ⟨h5,_⟩|⟨b,cap,cs,k,n',rfl,r2,r3,r4,r5,r6,r7,r8⟩
    . simp at h5
    . have hc0:cs[0]?=some (A3 t):=by
       have h9:=congrArg (λq=>q[0]?) r7
       simpa [List.getElem?_take] using h9
      have hia:∀hh,Gc 1 (.sl b 0 [t].length cap 1 false) (.int .i64 ((0:Nat):Int)) hh=.ok (.ptr b (0+0 * 1)) hh:=λhh=>Agr 1 b 0 1 cap 1 false 0 om
      have A3P:∀hh,Gc 1 (.sl b 0 1 cap 1 false) (.int .i64 0) hh=.ok (.ptr b 0) hh:=hia
      have hln:∀hh,Fo (.sl b 0 1 cap 1 false) hh=.ok (.int .i64 1) hh:=λhh=>rfl
      have hld:Ae (some none) (.ptr b 0) h=.ok (A3 t) h:=Di r2 trivial hc0
      have A8n:=h64 t
      have hnb:∀(x:Bool) hh,Aj prog .neq 4 false (.bool x) (.bool c) hh=.ok (.bool (true != (x == c))) hh:=λx hh=>Aig tk4 ..
      refine Ag (I0 ..) ?_
      refine Ag (E3 ..) ?_
      refine Ag (Di q1 trivial rfl) ?_
      refine Ag (hln _) ?_
      refine Ag (v:=.bool false) (h:=h) (by rw [Y6];rfl) ?_
      refine Ag (v:=.ptr bp 0) (h:=h) (Kk ..) ?_
      refine Ag (v:=.ptr bp 0) (h:=h) (by rw [Kk];exact I0 ..) ?_
      refine Ag (v:=.ptr bp 0) (h:=h) (by rw [Kk];exact E3 ..) ?_
      refine Ag (v:=.sl b 0 1 cap 1 false) (h:=h) (by rw [Kk];exact Di q1 trivial rfl) ?_
      refine Ag (v:=.ptr b 0) (h:=h) (by rw [Kk];exact A3P h) ?_
      refine Ag (v:=A3 t) (h:=h) (by rw [Kk];exact hld) ?_
      refine Ag (v:=.bool (decide (9<=t.op))) (h:=h) (by rw [Kk];exact A8n h) ?_
      refine Ag (v:=.bool c) (h:=h) (Kk ..) ?_
      refine Ag (v:=.bool (true != (decide (9<=t.op) == c))) (h:=h) (by rw [Kk];exact hnb _ h) ?_
      refine Ag (v:=.bool (true != (decide (9<=t.op) == c))) (h:=h) rfl ?_
      by_cases htc:F4 t=c
      . rw [show (true != (decide (9<=t.op) == c))=false by rw [<- htc];simp [F4],Dq]
        refine Ag (I0 ..) ?_
        refine Ag (E3 ..) ?_
        refine Ag (Di q1 trivial rfl) ?_
        refine Ag (A3P h) ?_
        refine Ag hld ?_
        refine B0 he om ?_
        simp [W8,Dm,htc,D9]
      . rw [show (true != (decide (9<=t.op) == c))=true by
         have:(decide (9<=t.op) == c)=false:=by simpa [F4] using htc
         rw [this];rfl,Ep]
        refine B0 he om ?_
        simp [W8,Dm,htc,D9]
  . have hd:(!decide ((st.length:Int)=1))=true:=by simp;omega
    have G8:(match Dm l st pre.length [] with|some [t]=>if F4 t=c then some t else none|_=>none)=none:=by
     simp only [Dm]
     match st,h1 with
     |[],_=>rfl
     |[t],hh=>simp at hh
     |t::t2::U0,_=>rfl
    rw [G8]
    refine Ag (I0 ..) ?_
    refine Ag (E3 ..) ?_
    refine Ag (Di q1 trivial rfl) ?_
    refine Ag (Z3 _) ?_
    refine Ag (v:=.bool true) (h:=h) (by rw [Y6,hd]) ?_
    refine xk ?_
    exact B0 he om rfl
 |cons x rest ih=>
  intro pre st h m f0 n1 Hk hn he hm hb Vt
  obtain ⟨n2,rfl⟩:∃n2,n1=n2+1:=⟨n1 - 1,by omega⟩
  have S4:l.length=pre.length+(rest.length+1):=by rw [Hk];simp
  simp only [List.length_cons] at hm hn
  have hhi:=he.hi
  have Kf:=he.lo
  have hx:l[pre.length]?=some x:=by rw [Hk];simp
  obtain ⟨b,o,cs,e,k,p1,p2,p3,p4,p5,p6,p7⟩:=Arn (hv.ext he) hx
  rw [Ajh]
  refine Ag (Hf ..) ?_
  rw [show decide ((pre.length:Int)<(l.length:Int))=true by simp [S4];omega,Ep]
  refine Ag (p1 h) ?_
  refine Ag (v:=.agg (Bw x)) (h:=h) (by rw [Nu,p2,p3,S9,AcC,E5,if_pos p6,p7];rfl) ?_
  refine Ag (Sx.AeI ..) ?_
  refine Ag (v:=.Bj []) (h:=(h.new (.cells [.int .i64 0,.int .i64 0,.str []] 32 .exact)).put h.nx (.cells (Bw x) 32 .exact)) (by simp (disch:=first|omega|(simp only [Z9];omega)) [Kh,Bw]) ?_
  have e1:=Xo he (.cells [.int .i64 0,.int .i64 0,.str []] 32 .exact) (.cells (Bw x) 32 .exact) om
  have e1':=Xo (Sx.Ext.refl 0 h) (.cells [.int .i64 0,.int .i64 0,.str []] 32 .exact) (.cells (Bw x) 32 .exact) om
  have g1:((h.new (.cells [.int .i64 0,.int .i64 0,.str []] 32 .exact)).put h.nx (.cells (Bw x) 32 .exact)).m.get h.nx=.cells (Bw x) 32 .exact:=Dz _ _ om
  have hx1:((h.new (.cells [.int .i64 0,.int .i64 0,.str []] 32 .exact)).put h.nx (.cells (Bw x) 32 .exact)).nx=h.nx+1:=rfl
  have hv1:=hv.ext e1
  have Qy:=hb.ext e1'
  generalize ((h.new (.cells [.int .i64 0,.int .i64 0,.str []] 32 .exact)).put h.nx (.cells (Bw x) 32 .exact))=h5 at *
  repeat' (first|with_reducible apply F0|with_reducible apply Gx|with_reducible apply Gw|(with_reducible apply Ahz;(conv=>arg 4;arg 1;simp (disch:=first|exact Ce|fail) [lc,C8,Cm,Cn,Co,Cp,Dt,C7,g1,Bw]);with_reducible apply F0)|(with_reducible apply Hy;· intro hc;first|((try simp only [Bool.not_or,Bool.not_and,Bool.not_not] at hc);(conv=>lhs;simp (disch:=first|exact Ce|fail) [hc,lc,C8,Cm,Cn,Co,Cp,Dt,C7,g1,Bw]);try exact rfl;done)|((try simp only [Bool.and_eq_true,Bool.or_eq_false_iff,Bool.or_eq_true,Bool.and_eq_false_imp,Bool.not_eq_true',Bool.not_eq_false',decide_eq_true_eq,decide_eq_false_iff_not] at hc);(conv=>lhs;simp (disch:=first|exact Ce|fail) [hc,lc,C8,Cm,Cn,Co,Cp,Dt,C7,g1,Bw]);try exact rfl;done))|(with_reducible apply Ahz;(conv=>arg 4;arg 1;simp only [Cm,Cn,Co,Cp]);with_reducible apply Hy;· intro hc;first|((try simp only [Bool.not_or,Bool.not_and,Bool.not_not] at hc);(conv=>lhs;simp (disch:=first|exact Ce|fail) [hc,lc,C8,Cm,Cn,Co,Cp,Dt,C7,g1,Bw]);try exact rfl;done)|((try simp only [Bool.and_eq_true,Bool.or_eq_false_iff,Bool.or_eq_true,Bool.and_eq_false_imp,Bool.not_eq_true',Bool.not_eq_false',decide_eq_true_eq,decide_eq_false_iff_not] at hc);(conv=>lhs;simp (disch:=first|exact Ce|fail) [hc,lc,C8,Cm,Cn,Co,Cp,Dt,C7,g1,Bw]);try exact rfl;done))|(with_reducible apply Atz;(conv=>arg 4;arg 1;simp (disch:=first|exact Ce|fail) [lc,C8,Cm,Cn,Co,Cp,Dt,C7,g1,Bw]);first|with_reducible apply Gx|with_reducible apply Gw))
  refine AmI (λhc=>?_) (λhc=>?_)
  . have At8:Qt x=true:=hc
    refine B0 e1 om ?_
    simp [W8,Dm,At8,D9]
  . have At8:Qt x=false:=hc
    have Cg:∀(Wg:Ou l pre.length x=false) (K:AV->H->OR),(∀(h6:H) (m6:Nat) (U0:List Tr),Fa st x=some U0->Sx.Ext m6 h0 h6->m6=m+1+10->Ew h0.nx h6 bp U0->Cb M h0 (W8 (match Dm l U0 (pre.length+1) rest with|some [t]=>if F4 t=c then some t else none|_=>none)) (K (.bool true) h6)) ->
     (∀(h6:H),Sx.Ext (m+1+10) h0 h6->Cb M h0 (W8 none) (K (.bool false) h6)) ->
     Cb M h0 (W8 (match Dm l st pre.length (x::rest) with|some [t]=>if F4 t=c then some t else none|_=>none)) (Aa (ctx.call 63 [.ptr bp 0,.agg (Bw x)] h5) K):=by
     intro Wg K hK1 hK2
     refine Jh (h63 Qy e1 om om) λr h6 e6 Lp=>?_
     cases hs:Fa st x with
     |none=>
      rw [hs] at Lp
      have hr:r=.bool false:=Lp
      subst hr
      have:=hK2 h6 e6
      simpa [Dm,At8,Wg,hs] using this
     |some U0=>
      rw [hs] at Lp
      obtain ⟨hr,G8⟩:r=.bool true/\Ew h0.nx h6 bp U0:=Lp
      subst hr
      have:=hK1 h6 _ U0 hs e6 rfl G8
      simpa [Dm,At8,Wg,hs] using this
    by_cases h3:x.op=3
    . have AtJ:=hv1.len (h1:=h5)
      have hnd:[AV.int .i64 3,.int .i64 x.n,.str x.Zn]=Bw x:=by simp [Bw,h3]
      have Jr:∀hh,Fo v hh=.ok (.int .i64 (l.length:Int)) hh:=λhh=>hv1.len
      have hwa:E1 .i64 ((pre.length:Int)+1)=(pre.length:Int)+1:=by rw [Cr]<;>omega
      have At9:Ou l pre.length x=true->Cb M h0 (W8 (match Dm l st pre.length (x::rest) with|some [t]=>if F4 t=c then some t else none|_=>none)) (.ok (.Bj [.B3,.bool false]) h5):=λWg=>B0 e1 om (by simp [W8,Dm,Wg,D9])
      rcases Nat.eq_zero_or_pos pre.length with hp0|hp0
      . have hd0:decide (pre=[])=true:=by simpa using hp0
        refine xk ?_
        exact At9 (by simp [Ou,h3,hp0])
      . have hd0:decide (pre=[])=false:=decide_eq_false (λhh=>by rw [hh] at hp0;simp at hp0)
        have hws:E1 .i64 ((pre.length:Int) - 1)=((pre.length - 1:Nat):Int):=by rw [Cr]<;>omega
        obtain ⟨y,hy⟩:∃y,l[pre.length - 1]?=some y:=⟨l[pre.length - 1]' om,List.getElem?_eq_getElem om⟩
        have hya:AcU l (pre.length - 1)=y.op:=by unfold AcU;rw [hy]
        obtain ⟨yb,yo,ycs,ye,yk,y1,y2,y3,y4,y5,-,-⟩:=Arn hv1 hy
        by_cases hy2:y.op=2
        . by_cases AqD:l.length<=pre.length+1
          . have hd1:decide ((l.length:Int)<=(pre.length:Int)+1)=true:=by simp;omega
            refine xs (aa g1 (aa Bw.eq_1 (aa h3 (aa hd0 (aa hws (aa y1 (aa y2 (aa y3 (aa y5 (aa hy2 (aa hwa (aa Jr hd1)))))))))))) ?_
            exact At9 (by simp [Ou,h3,hya,hy2,AqD])
          . have hd1:decide ((l.length:Int)<=(pre.length:Int)+1)=false:=by simp;omega
            obtain ⟨z,hz⟩:∃z,l[pre.length+1]?=some z:=⟨l[pre.length+1]' om,List.getElem?_eq_getElem om⟩
            have hza:AcU l (pre.length+1)=z.op:=by unfold AcU;rw [hz]
            obtain ⟨zb,zo,zcs,ze,zk,z1,z2,z3,z4,z5,-,-⟩:=Arn hv1 hz
            have z1':∀hh,Gc 3 v (.int .i64 ((pre.length:Int)+1)) hh=.ok (.ptr zb zo) hh:=λhh=>by simpa using z1 hh
            by_cases hz9:z.op=9
            . have Wg:Ou l pre.length x=false:=by simp [Ou,h3,hya,hy2,hza,hz9,AqD,List.ne_nil_of_length_pos hp0]
              refine xs (aa g1 (aa Bw.eq_1 (aa h3 (aa hd0 (aa hws (aa y1 (aa y2 (aa y3 (aa y5 (aa hy2 (aa hwa (aa Jr (aa hd1 (aa z1' (aa z2 (aa z3 (aa z5 hz9))))))))))))))))) ?_
              rw [hnd]
              refine Cg Wg _ (λh6 m6 U0 hs e6 hm6 G8=>?_) (λh6 e6=>?_)
              . refine xs trivial ?_
                subst hm6
                have hi:=λf=>ih (pre++[x]) U0 h6 (m+1+10) f n2 (by rw [Hk];simp) om e6 om G8 (by have:=AbP hs;simp;omega)
                have X2:((pre++[x]).length:Int)=(pre.length:Int)+1:=by simp
                simp only [X2,List.length_append,List.length_cons,List.length_nil,Nat.zero_add] at hi
                rw [Cr _ om om]
                exact hi _
              . refine xk ?_
                exact B0 e6 om rfl
            . by_cases AtW:z.op=10
              . have Wg:Ou l pre.length x=false:=by simp [Ou,h3,hya,hy2,hza,AtW,AqD,List.ne_nil_of_length_pos hp0]
                refine xs (aa g1 (aa Bw.eq_1 (aa h3 (aa hd0 (aa hws (aa y1 (aa y2 (aa y3 (aa y5 (aa hy2 (aa hwa (aa Jr (aa hd1 (aa z1' (aa z2 (aa z3 (aa z5 AtW))))))))))))))))) ?_
                rw [hnd]
                refine Cg Wg _ (λh6 m6 U0 hs e6 hm6 G8=>?_) (λh6 e6=>?_)
                . refine xs trivial ?_
                  subst hm6
                  have hi:=λf=>ih (pre++[x]) U0 h6 (m+1+10) f n2 (by rw [Hk];simp) om e6 om G8 (by have:=AbP hs;simp;omega)
                  have X2:((pre++[x]).length:Int)=(pre.length:Int)+1:=by simp
                  simp only [X2,List.length_append,List.length_cons,List.length_nil,Nat.zero_add] at hi
                  rw [Cr _ om om]
                  exact hi _
                . refine xk ?_
                  exact B0 e6 om rfl
              . refine xs (aa g1 (aa Bw.eq_1 (aa h3 (aa hd0 (aa hws (aa y1 (aa y2 (aa y3 (aa y5 (aa hy2 (aa hwa (aa Jr (aa hd1 (aa z1' (aa z2 (aa z3 (aa z5 (aa hz9 AtW)))))))))))))))))) ?_
                exact At9 (by simp [Ou,h3,hya,hy2,hza,hz9,AtW])
        . refine xk ?_
          exact At9 (by simp [Ou,h3,hya,hy2])
    . have Wg:Ou l pre.length x=false:=by simp [Ou,h3]
      repeat' (first|with_reducible apply F0|with_reducible apply Gx|with_reducible apply Gw|(with_reducible apply Ahz;(conv=>arg 4;arg 1;simp (disch:=first|exact Ce|fail) [lc,C8,Cm,Cn,Co,Cp,Dt,C7,g1,Bw,h3]);with_reducible apply F0)|(with_reducible apply Hy;· intro hc;first|((try simp only [Bool.not_or,Bool.not_and,Bool.not_not] at hc);(conv=>lhs;simp (disch:=first|exact Ce|fail) [hc,lc,C8,Cm,Cn,Co,Cp,Dt,C7,g1,Bw,h3]);try exact rfl;done)|((try simp only [Bool.and_eq_true,Bool.or_eq_false_iff,Bool.or_eq_true,Bool.and_eq_false_imp,Bool.not_eq_true',Bool.not_eq_false',decide_eq_true_eq,decide_eq_false_iff_not] at hc);(conv=>lhs;simp (disch:=first|exact Ce|fail) [hc,lc,C8,Cm,Cn,Co,Cp,Dt,C7,g1,Bw,h3]);try exact rfl;done))|(with_reducible apply Ahz;(conv=>arg 4;arg 1;simp only [Cm,Cn,Co,Cp]);with_reducible apply Hy;· intro hc;first|((try simp only [Bool.not_or,Bool.not_and,Bool.not_not] at hc);(conv=>lhs;simp (disch:=first|exact Ce|fail) [hc,lc,C8,Cm,Cn,Co,Cp,Dt,C7,g1,Bw,h3]);try exact rfl;done)|((try simp only [Bool.and_eq_true,Bool.or_eq_false_iff,Bool.or_eq_true,Bool.and_eq_false_imp,Bool.not_eq_true',Bool.not_eq_false',decide_eq_true_eq,decide_eq_false_iff_not] at hc);(conv=>lhs;simp (disch:=first|exact Ce|fail) [hc,lc,C8,Cm,Cn,Co,Cp,Dt,C7,g1,Bw,h3]);try exact rfl;done))|(with_reducible apply Atz;(conv=>arg 4;arg 1;simp (disch:=first|exact Ce|fail) [lc,C8,Cm,Cn,Co,Cp,Dt,C7,g1,Bw,h3]);first|with_reducible apply Gx|with_reducible apply Gw))
      refine Cg Wg _ (λh6 m6 U0 hs e6 hm6 G8=>?_) (λh6 e6=>?_)
      . repeat' (first|with_reducible apply F0|with_reducible apply Gx|with_reducible apply Gw|(with_reducible apply Ahz;(conv=>arg 4;arg 1;simp (disch:=first|exact Ce|fail) [lc,C8,Cm,Cn,Co,Cp,Dt,C7]);with_reducible apply F0)|(with_reducible apply Hy;· intro hc;first|((try simp only [Bool.not_or,Bool.not_and,Bool.not_not] at hc);(conv=>lhs;simp (disch:=first|exact Ce|fail) [hc,lc,C8,Cm,Cn,Co,Cp,Dt,C7]);try exact rfl;done)|((try simp only [Bool.and_eq_true,Bool.or_eq_false_iff,Bool.or_eq_true,Bool.and_eq_false_imp,Bool.not_eq_true',Bool.not_eq_false',decide_eq_true_eq,decide_eq_false_iff_not] at hc);(conv=>lhs;simp (disch:=first|exact Ce|fail) [hc,lc,C8,Cm,Cn,Co,Cp,Dt,C7]);try exact rfl;done))|(with_reducible apply Ahz;(conv=>arg 4;arg 1;simp only [Cm,Cn,Co,Cp]);with_reducible apply Hy;· intro hc;first|((try simp only [Bool.not_or,Bool.not_and,Bool.not_not] at hc);(conv=>lhs;simp (disch:=first|exact Ce|fail) [hc,lc,C8,Cm,Cn,Co,Cp,Dt,C7]);try exact rfl;done)|((try simp only [Bool.and_eq_true,Bool.or_eq_false_iff,Bool.or_eq_true,Bool.and_eq_false_imp,Bool.not_eq_true',Bool.not_eq_false',decide_eq_true_eq,decide_eq_false_iff_not] at hc);(conv=>lhs;simp (disch:=first|exact Ce|fail) [hc,lc,C8,Cm,Cn,Co,Cp,Dt,C7]);try exact rfl;done))|(with_reducible apply Atz;(conv=>arg 4;arg 1;simp (disch:=first|exact Ce|fail) [lc,C8,Cm,Cn,Co,Cp,Dt,C7]);first|with_reducible apply Gx|with_reducible apply Gw))
        subst hm6
        have hi:=λf=>ih (pre++[x]) U0 h6 (m+1+10) f n2 (by rw [Hk];simp) om e6 om G8 (by have:=AbP hs;simp;omega)
        have X2:((pre++[x]).length:Int)=(pre.length:Int)+1:=by simp
        simp only [X2,List.length_append,List.length_cons,List.length_nil,Nat.zero_add] at hi
        rw [Cr _ om om]
        exact hi _
      . repeat' (first|with_reducible apply F0|with_reducible apply Gx|with_reducible apply Gw|(with_reducible apply Ahz;(conv=>arg 4;arg 1;simp (disch:=first|exact Ce|fail) [lc,C8,Cm,Cn,Co,Cp,Dt,C7]);with_reducible apply F0)|(with_reducible apply Hy;· intro hc;first|((try simp only [Bool.not_or,Bool.not_and,Bool.not_not] at hc);(conv=>lhs;simp (disch:=first|exact Ce|fail) [hc,lc,C8,Cm,Cn,Co,Cp,Dt,C7]);try exact rfl;done)|((try simp only [Bool.and_eq_true,Bool.or_eq_false_iff,Bool.or_eq_true,Bool.and_eq_false_imp,Bool.not_eq_true',Bool.not_eq_false',decide_eq_true_eq,decide_eq_false_iff_not] at hc);(conv=>lhs;simp (disch:=first|exact Ce|fail) [hc,lc,C8,Cm,Cn,Co,Cp,Dt,C7]);try exact rfl;done))|(with_reducible apply Ahz;(conv=>arg 4;arg 1;simp only [Cm,Cn,Co,Cp]);with_reducible apply Hy;· intro hc;first|((try simp only [Bool.not_or,Bool.not_and,Bool.not_not] at hc);(conv=>lhs;simp (disch:=first|exact Ce|fail) [hc,lc,C8,Cm,Cn,Co,Cp,Dt,C7]);try exact rfl;done)|((try simp only [Bool.and_eq_true,Bool.or_eq_false_iff,Bool.or_eq_true,Bool.and_eq_false_imp,Bool.not_eq_true',Bool.not_eq_false',decide_eq_true_eq,decide_eq_false_iff_not] at hc);(conv=>lhs;simp (disch:=first|exact Ce|fail) [hc,lc,C8,Cm,Cn,Co,Cp,Dt,C7]);try exact rfl;done))|(with_reducible apply Atz;(conv=>arg 4;arg 1;simp (disch:=first|exact Ce|fail) [lc,C8,Cm,Cn,Co,Cp,Dt,C7]);first|with_reducible apply Gx|with_reducible apply Gw))
        exact B0 e6 om rfl
theorem n28 (h63:H63 ctx) (h64:H64 ctx) (c:Bool) (l:List Nd) (hlen:l.length<=3000) (hN:l.length+1<=N) {h:H} {v:AV} (hv:Zi h v l) (AeB:h.nx+(20 * l.length+30)<=Bq):
 Cb (20 * l.length+30) h (λv _=>v=Yy (Je l c)) (Ay prog ctx N true 28 [v,.bool c] h):=by
 rw [e28]
 refine Ag (Hg ..) ?_
 have e1:=(Sx.Ext.refl 0 h).new (.cells [.Bv] 105 .exact) om
 refine Ag hv.len ?_
 have hb:Ew h.nx (h.new (.cells [.Bv] 105 .exact)) h.nx []:=⟨Nat.le_refl _,by show h.nx<h.nx+1;omega,.Bv,A6 _ om,.inl ⟨rfl,rfl⟩⟩
 exact Azc ctx N h63 h64 c l hlen hv AeB l [] [] _ 1 _ N rfl hN e1 om hb (Nat.le_refl _)
end Go.Proofs
