/- build: a list of nodes read as an expression. -/
import Derived.Test.YtecikbfimlolcaaGreatDoorEvNe
set_option maxRecDepth 100000
set_option linter.unusedSimpArgs false
set_option linter.unusedVariables false
set_option linter.unusedSectionVars false
noncomputable section
namespace Go.Proofs
open Go Go.Ev Go.Nm
attribute [local irreducible] Aa Al Af Ad
variable [Ii]
variable (ctx:Ac) (N:Nat)
theorem Azu (Ov:Ad5 ctx) {h0 h:H} {bp m:Nat} {st:List Tr} {x:Nd} (hx:x.op=15) (hb:Ew h0.nx h bp st) (he:Sx.Ext m h0 h) (hl:h0.nx+m+20<=Bq) (Fc:st.length<=40000):
 Sx.Cb (m+10) h0 (Vl h0.nx bp (Fa st x)) (Ay Tryz.prog ctx N false 63 [.ptr bp 0,.agg (Bw x)] h):=by
 have hp2:=hb.p2
 have AmZ:=he.hi
 have Aq6:=he.lo
 have Lp:Fa st x=(match Gf st [decide (x.op=15)||decide (x.op=16),decide (x.op=15)||decide (x.op=16)] with|some (r,[a,b])=>some (r++[.two x.op a b])|_=>none):=by unfold Fa;rw [if_neg (by omega),if_neg (by omega),if_neg (by omega)];rfl
 rw [Lp,e63]
 have e1:=he.new (.cells (Bw x) 32 .exact) (by omega)
 have Qy:=hb.ext ((Sx.Ext.refl 0 h).new (.cells (Bw x) 32 .exact) (by omega))
 have hg1:(h.new (.cells (Bw x) 32 .exact)).m.get h.nx=.cells (Bw x) 32 .exact:=Sx.A6 _ (by omega)
 have hn1:(h.new (.cells (Bw x) 32 .exact)).nx=h.nx+1:=rfl
 refine Sx.Ag (Sx.Hg ..) ?_
 generalize h.new (.cells (Bw x) 32 .exact)=h4 at *
 have hd:(decide (x.op=15)||decide (x.op=16))=true:=by simp [hx]
 repeat' (first|with_reducible (first|apply J4|apply J1|apply J5|apply Ko)|(with_reducible (first|apply Wx|apply Vz|apply Wy);(conv=>lhs;simp (disch:=first|exact Ce|fail) [lc,hg1,Bw,hx]);with_reducible (first|apply J4|apply J1|apply J5|apply Ko|(refine Y7 (by simp) ?_))))
 rw [hd]
 have e2:=e1.new (.cells [.bool true,.bool true] 4 .exact) (by omega)
 have e2':=(Sx.Ext.refl 0 h4).new (.cells [.bool true,.bool true] 4 .exact) (by omega)
 have hw:Afc (h4.new (.cells [.bool true,.bool true] 4 .exact)) (.sl h4.nx 0 2 2 1 true) [true,true]:=⟨.inr ⟨h4.nx,0,2,true,[.bool true,.bool true],4,.exact,rfl,Nat.le_refl _,Sx.A6 _ (by omega),trivial,by show h4.nx<h4.nx+1;omega,by simp,rfl⟩⟩
 have hg5:(h4.new (.cells [.bool true,.bool true] 4 .exact)).m.get h.nx=.cells (Bw x) 32 .exact:=by rw [e2'.Cf _ (by omega)];exact hg1
 refine Sx.Jh (Ov (Qy.ext e2') (by simp) hw e2 (by show h4.nx+1+3<=Bq;omega) Fc (by simp)) λr Kr e3 Mh=>?_
 obtain ⟨⟨AhB,Pa⟩,Mh⟩:=Mh
 have Ac3:Kr.m.get h.nx=.cells (Bw x) 32 .exact:=by rw [Pa _ (by show h.nx<h4.nx+1;omega) (by omega)];exact hg5
 have hhi:=e3.hi
 rcases Mh with ⟨v,rfl,hle,heq,Zc,G8⟩|⟨v,rfl,Ac5⟩
 . have hlen:(st.drop (st.length - [true,true].length)).length=2:=by rw [List.length_drop];simp at hle ⊢;omega
   obtain ⟨a,b,ha⟩:∃a b,st.drop (st.length - [true,true].length)=[a,b]:=AyZ hlen
   have Hz:Gf st [true,true]=some (st.take (st.length - [true,true].length),[a,b]):=by unfold Gf;rw [if_pos ⟨hle,heq⟩,ha]
   rw [Hz]
   rw [ha] at Zc
   obtain ⟨b0,o0,cs0,ee0,k0,p10,p20,p30,p40,p50⟩:=Ia Zc (i:=0) (x:=a) rfl
   have p60:∀h1,Gc 1 v (.int .i64 0) h1=.ok (.ptr b0 o0) h1:=p10
   have p70:∀hh,rdO (.cells cs0 ee0 k0) hh=some cs0:=λhh=>Sx.Dc p30
   obtain ⟨b1,o1,cs1,ee1,k1,p11,p21,p31,p41,p51⟩:=Ia Zc (i:=1) (x:=b) rfl
   have p61:∀h1,Gc 1 v (.int .i64 1) h1=.ok (.ptr b1 o1) h1:=p11
   have p71:∀hh,rdO (.cells cs1 ee1 k1) hh=some cs1:=λhh=>Sx.Dc p31
   obtain ⟨sv,q1,q2⟩:=G8.at'
   repeat' (first|with_reducible (first|apply J4|apply J1|apply J5|apply Ko)|(with_reducible (first|apply Wx|apply Vz|apply Wy);(conv=>lhs;simp (disch:=first|exact Ce|fail) [lc,Ac3,q1,p60,p20,p70,p50,p61,p21,p71,p51,Bw]);with_reducible (first|apply J4|apply J1|apply J5|apply Ko|(refine Y7 (by simp) ?_))))
   refine Od (h:=Kr) (t:=.two x.op a b) G8 q1 e3.Ab (by omega) (by rw [List.length_take];omega) λsv2 h2 f1 f2 f3=>?_
   refine Sx.Jj ?_ ?_
   . refine Lm _ λe he=>?_
     simp only [List.mem_cons,List.not_mem_nil,or_false] at he
     rcases he with rfl|rfl|rfl|rfl|rfl|rfl|rfl|rfl|rfl|rfl|rfl|rfl|rfl|rfl|rfl|rfl|rfl|rfl|rfl|rfl
     all_goals first|exact .inl rfl|exact .inr (by simp (disch:=decide) only [Sx.Fz,Sx.Hw,Sx.Ci,Sx.Ar,Sx.Ax,Bool.and_self])
   . refine Sx.B0 (f1.Be _ λz hz=>?_) (by omega) ⟨rfl,f3.Be _⟩
     simp only [Sx.Ap,Sx.At,List.mem_append,List.not_mem_nil,false_or] at hz
     repeat' (rcases hz with hz|hz)
     all_goals first|exact (AcR (Ck _ _ _ hz)).elim|exact .inr (f2 z (Ck _ _ _ hz))|exact .inr (Akw hb.p1 (Ck _ _ _ hz))|exact e3.lg z hz
 . have Hz:Gf st [true,true]=none:=by unfold Gf;rw [if_neg Ac5]
   rw [Hz]
   repeat' (first|with_reducible (first|apply J4|apply J1|apply J5|apply Ko)|(with_reducible (first|apply Wx|apply Vz|apply Wy);(conv=>lhs;simp (disch:=first|exact Ce|fail) [lc]);with_reducible (first|apply J4|apply J1|apply J5|apply Ko|(refine Y7 (by simp) ?_))))
   exact Sx.B0 e3 (by omega) rfl
theorem A4H (Ov:Ad5 ctx) {h0 h:H} {bp m:Nat} {st:List Tr} {x:Nd} (hx:x.op=16) (hb:Ew h0.nx h bp st) (he:Sx.Ext m h0 h) (hl:h0.nx+m+20<=Bq) (Fc:st.length<=40000):
 Sx.Cb (m+10) h0 (Vl h0.nx bp (Fa st x)) (Ay Tryz.prog ctx N false 63 [.ptr bp 0,.agg (Bw x)] h):=by
 have hp2:=hb.p2
 have AmZ:=he.hi
 have Aq6:=he.lo
 have Lp:Fa st x=(match Gf st [decide (x.op=15)||decide (x.op=16),decide (x.op=15)||decide (x.op=16)] with|some (r,[a,b])=>some (r++[.two x.op a b])|_=>none):=by unfold Fa;rw [if_neg (by omega),if_neg (by omega),if_neg (by omega)];rfl
 rw [Lp,e63]
 have e1:=he.new (.cells (Bw x) 32 .exact) (by omega)
 have Qy:=hb.ext ((Sx.Ext.refl 0 h).new (.cells (Bw x) 32 .exact) (by omega))
 have hg1:(h.new (.cells (Bw x) 32 .exact)).m.get h.nx=.cells (Bw x) 32 .exact:=Sx.A6 _ (by omega)
 have hn1:(h.new (.cells (Bw x) 32 .exact)).nx=h.nx+1:=rfl
 refine Sx.Ag (Sx.Hg ..) ?_
 generalize h.new (.cells (Bw x) 32 .exact)=h4 at *
 have hd:(decide (x.op=15)||decide (x.op=16))=true:=by simp [hx]
 repeat' (first|with_reducible (first|apply J4|apply J1|apply J5|apply Ko)|(with_reducible (first|apply Wx|apply Vz|apply Wy);(conv=>lhs;simp (disch:=first|exact Ce|fail) [lc,hg1,Bw,hx]);with_reducible (first|apply J4|apply J1|apply J5|apply Ko|(refine Y7 (by simp) ?_))))
 rw [hd]
 have e2:=e1.new (.cells [.bool true,.bool true] 4 .exact) (by omega)
 have e2':=(Sx.Ext.refl 0 h4).new (.cells [.bool true,.bool true] 4 .exact) (by omega)
 have hw:Afc (h4.new (.cells [.bool true,.bool true] 4 .exact)) (.sl h4.nx 0 2 2 1 true) [true,true]:=⟨.inr ⟨h4.nx,0,2,true,[.bool true,.bool true],4,.exact,rfl,Nat.le_refl _,Sx.A6 _ (by omega),trivial,by show h4.nx<h4.nx+1;omega,by simp,rfl⟩⟩
 have hg5:(h4.new (.cells [.bool true,.bool true] 4 .exact)).m.get h.nx=.cells (Bw x) 32 .exact:=by rw [e2'.Cf _ (by omega)];exact hg1
 refine Sx.Jh (Ov (Qy.ext e2') (by simp) hw e2 (by show h4.nx+1+3<=Bq;omega) Fc (by simp)) λr Kr e3 Mh=>?_
 obtain ⟨⟨AhB,Pa⟩,Mh⟩:=Mh
 have Ac3:Kr.m.get h.nx=.cells (Bw x) 32 .exact:=by rw [Pa _ (by show h.nx<h4.nx+1;omega) (by omega)];exact hg5
 have hhi:=e3.hi
 rcases Mh with ⟨v,rfl,hle,heq,Zc,G8⟩|⟨v,rfl,Ac5⟩
 . have hlen:(st.drop (st.length - [true,true].length)).length=2:=by rw [List.length_drop];simp at hle ⊢;omega
   obtain ⟨a,b,ha⟩:∃a b,st.drop (st.length - [true,true].length)=[a,b]:=AyZ hlen
   have Hz:Gf st [true,true]=some (st.take (st.length - [true,true].length),[a,b]):=by unfold Gf;rw [if_pos ⟨hle,heq⟩,ha]
   rw [Hz]
   rw [ha] at Zc
   obtain ⟨b0,o0,cs0,ee0,k0,p10,p20,p30,p40,p50⟩:=Ia Zc (i:=0) (x:=a) rfl
   have p60:∀h1,Gc 1 v (.int .i64 0) h1=.ok (.ptr b0 o0) h1:=p10
   have p70:∀hh,rdO (.cells cs0 ee0 k0) hh=some cs0:=λhh=>Sx.Dc p30
   obtain ⟨b1,o1,cs1,ee1,k1,p11,p21,p31,p41,p51⟩:=Ia Zc (i:=1) (x:=b) rfl
   have p61:∀h1,Gc 1 v (.int .i64 1) h1=.ok (.ptr b1 o1) h1:=p11
   have p71:∀hh,rdO (.cells cs1 ee1 k1) hh=some cs1:=λhh=>Sx.Dc p31
   obtain ⟨sv,q1,q2⟩:=G8.at'
   repeat' (first|with_reducible (first|apply J4|apply J1|apply J5|apply Ko)|(with_reducible (first|apply Wx|apply Vz|apply Wy);(conv=>lhs;simp (disch:=first|exact Ce|fail) [lc,Ac3,q1,p60,p20,p70,p50,p61,p21,p71,p51,Bw]);with_reducible (first|apply J4|apply J1|apply J5|apply Ko|(refine Y7 (by simp) ?_))))
   refine Od (h:=Kr) (t:=.two x.op a b) G8 q1 e3.Ab (by omega) (by rw [List.length_take];omega) λsv2 h2 f1 f2 f3=>?_
   refine Sx.Jj ?_ ?_
   . refine Lm _ λe he=>?_
     simp only [List.mem_cons,List.not_mem_nil,or_false] at he
     rcases he with rfl|rfl|rfl|rfl|rfl|rfl|rfl|rfl|rfl|rfl|rfl|rfl|rfl|rfl|rfl|rfl|rfl|rfl|rfl|rfl
     all_goals first|exact .inl rfl|exact .inr (by simp (disch:=decide) only [Sx.Fz,Sx.Hw,Sx.Ci,Sx.Ar,Sx.Ax,Bool.and_self])
   . refine Sx.B0 (f1.Be _ λz hz=>?_) (by omega) ⟨rfl,f3.Be _⟩
     simp only [Sx.Ap,Sx.At,List.mem_append,List.not_mem_nil,false_or] at hz
     repeat' (rcases hz with hz|hz)
     all_goals first|exact (AcR (Ck _ _ _ hz)).elim|exact .inr (f2 z (Ck _ _ _ hz))|exact .inr (Akw hb.p1 (Ck _ _ _ hz))|exact e3.lg z hz
 . have Hz:Gf st [true,true]=none:=by unfold Gf;rw [if_neg Ac5]
   rw [Hz]
   repeat' (first|with_reducible (first|apply J4|apply J1|apply J5|apply Ko)|(with_reducible (first|apply Wx|apply Vz|apply Wy);(conv=>lhs;simp (disch:=first|exact Ce|fail) [lc]);with_reducible (first|apply J4|apply J1|apply J5|apply Ko|(refine Y7 (by simp) ?_))))
   exact Sx.B0 e3 (by omega) rfl
theorem Azx (Ov:Ad5 ctx) {h0 h:H} {bp m:Nat} {st:List Tr} {x:Nd} (hx:¬ x.op<=3/\x.op≠7/\x.op≠17/\x.op≠8/\x.op≠15/\x.op≠16) (hb:Ew h0.nx h bp st) (he:Sx.Ext m h0 h) (hl:h0.nx+m+20<=Bq) (Fc:st.length<=40000):
 Sx.Cb (m+10) h0 (Vl h0.nx bp (Fa st x)) (Ay Tryz.prog ctx N false 63 [.ptr bp 0,.agg (Bw x)] h):=by
 have hp2:=hb.p2
 have AmZ:=he.hi
 have Aq6:=he.lo
 have Lp:Fa st x=(match Gf st [decide (x.op=15)||decide (x.op=16),decide (x.op=15)||decide (x.op=16)] with|some (r,[a,b])=>some (r++[.two x.op a b])|_=>none):=by unfold Fa;rw [if_neg (by omega),if_neg (by omega),if_neg (by omega)];rfl
 rw [Lp,e63]
 have e1:=he.new (.cells (Bw x) 32 .exact) (by omega)
 have Qy:=hb.ext ((Sx.Ext.refl 0 h).new (.cells (Bw x) 32 .exact) (by omega))
 have hg1:(h.new (.cells (Bw x) 32 .exact)).m.get h.nx=.cells (Bw x) 32 .exact:=Sx.A6 _ (by omega)
 have hn1:(h.new (.cells (Bw x) 32 .exact)).nx=h.nx+1:=rfl
 refine Sx.Ag (Sx.Hg ..) ?_
 generalize h.new (.cells (Bw x) 32 .exact)=h4 at *
 have hd:(decide (x.op=15)||decide (x.op=16))=false:=by simp [hx.1,hx.2.1,hx.2.2.1,hx.2.2.2.1,hx.2.2.2.2.1,hx.2.2.2.2.2]
 repeat' (first|with_reducible (first|apply J4|apply J1|apply J5|apply Ko)|(with_reducible (first|apply Wx|apply Vz|apply Wy);(conv=>lhs;simp (disch:=first|exact Ce|fail) [lc,hg1,Bw,hx.1,hx.2.1,hx.2.2.1,hx.2.2.2.1,hx.2.2.2.2.1,hx.2.2.2.2.2]);with_reducible (first|apply J4|apply J1|apply J5|apply Ko|(refine Y7 (by simp) ?_))))
 rw [hd]
 have e2:=e1.new (.cells [.bool false,.bool false] 4 .exact) (by omega)
 have e2':=(Sx.Ext.refl 0 h4).new (.cells [.bool false,.bool false] 4 .exact) (by omega)
 have hw:Afc (h4.new (.cells [.bool false,.bool false] 4 .exact)) (.sl h4.nx 0 2 2 1 true) [false,false]:=⟨.inr ⟨h4.nx,0,2,true,[.bool false,.bool false],4,.exact,rfl,Nat.le_refl _,Sx.A6 _ (by omega),trivial,by show h4.nx<h4.nx+1;omega,by simp,rfl⟩⟩
 have hg5:(h4.new (.cells [.bool false,.bool false] 4 .exact)).m.get h.nx=.cells (Bw x) 32 .exact:=by rw [e2'.Cf _ (by omega)];exact hg1
 refine Sx.Jh (Ov (Qy.ext e2') (by simp) hw e2 (by show h4.nx+1+3<=Bq;omega) Fc (by simp)) λr Kr e3 Mh=>?_
 obtain ⟨⟨AhB,Pa⟩,Mh⟩:=Mh
 have Ac3:Kr.m.get h.nx=.cells (Bw x) 32 .exact:=by rw [Pa _ (by show h.nx<h4.nx+1;omega) (by omega)];exact hg5
 have hhi:=e3.hi
 rcases Mh with ⟨v,rfl,hle,heq,Zc,G8⟩|⟨v,rfl,Ac5⟩
 . have hlen:(st.drop (st.length - [false,false].length)).length=2:=by rw [List.length_drop];simp at hle ⊢;omega
   obtain ⟨a,b,ha⟩:∃a b,st.drop (st.length - [false,false].length)=[a,b]:=AyZ hlen
   have Hz:Gf st [false,false]=some (st.take (st.length - [false,false].length),[a,b]):=by unfold Gf;rw [if_pos ⟨hle,heq⟩,ha]
   rw [Hz]
   rw [ha] at Zc
   obtain ⟨b0,o0,cs0,ee0,k0,p10,p20,p30,p40,p50⟩:=Ia Zc (i:=0) (x:=a) rfl
   have p60:∀h1,Gc 1 v (.int .i64 0) h1=.ok (.ptr b0 o0) h1:=p10
   have p70:∀hh,rdO (.cells cs0 ee0 k0) hh=some cs0:=λhh=>Sx.Dc p30
   obtain ⟨b1,o1,cs1,ee1,k1,p11,p21,p31,p41,p51⟩:=Ia Zc (i:=1) (x:=b) rfl
   have p61:∀h1,Gc 1 v (.int .i64 1) h1=.ok (.ptr b1 o1) h1:=p11
   have p71:∀hh,rdO (.cells cs1 ee1 k1) hh=some cs1:=λhh=>Sx.Dc p31
   obtain ⟨sv,q1,q2⟩:=G8.at'
   repeat' (first|with_reducible (first|apply J4|apply J1|apply J5|apply Ko)|(with_reducible (first|apply Wx|apply Vz|apply Wy);(conv=>lhs;simp (disch:=first|exact Ce|fail) [lc,Ac3,q1,p60,p20,p70,p50,p61,p21,p71,p51,Bw]);with_reducible (first|apply J4|apply J1|apply J5|apply Ko|(refine Y7 (by simp) ?_))))
   refine Od (h:=Kr) (t:=.two x.op a b) G8 q1 e3.Ab (by omega) (by rw [List.length_take];omega) λsv2 h2 f1 f2 f3=>?_
   refine Sx.Jj ?_ ?_
   . refine Lm _ λe he=>?_
     simp only [List.mem_cons,List.not_mem_nil,or_false] at he
     rcases he with rfl|rfl|rfl|rfl|rfl|rfl|rfl|rfl|rfl|rfl|rfl|rfl|rfl|rfl|rfl|rfl|rfl|rfl|rfl|rfl
     all_goals first|exact .inl rfl|exact .inr (by simp (disch:=decide) only [Sx.Fz,Sx.Hw,Sx.Ci,Sx.Ar,Sx.Ax,Bool.and_self])
   . refine Sx.B0 (f1.Be _ λz hz=>?_) (by omega) ⟨rfl,f3.Be _⟩
     simp only [Sx.Ap,Sx.At,List.mem_append,List.not_mem_nil,false_or] at hz
     repeat' (rcases hz with hz|hz)
     all_goals first|exact (AcR (Ck _ _ _ hz)).elim|exact .inr (f2 z (Ck _ _ _ hz))|exact .inr (Akw hb.p1 (Ck _ _ _ hz))|exact e3.lg z hz
 . have Hz:Gf st [false,false]=none:=by unfold Gf;rw [if_neg Ac5]
   rw [Hz]
   repeat' (first|with_reducible (first|apply J4|apply J1|apply J5|apply Ko)|(with_reducible (first|apply Wx|apply Vz|apply Wy);(conv=>lhs;simp (disch:=first|exact Ce|fail) [lc]);with_reducible (first|apply J4|apply J1|apply J5|apply Ko|(refine Y7 (by simp) ?_))))
   exact Sx.B0 e3 (by omega) rfl
theorem n63 (Ov:Ad5 ctx) {h0 h:H} {bp m:Nat} {st:List Tr} {x:Nd} (hb:Ew h0.nx h bp st) (he:Sx.Ext m h0 h) (hl:h0.nx+m+20<=Bq) (Fc:st.length<=40000):
 Sx.Cb (m+10) h0 (Vl h0.nx bp (Fa st x)) (Ay Tryz.prog ctx N false 63 [.ptr bp 0,.agg (Bw x)] h):=by
 by_cases h1:x.op<=3
 . exact Auq ctx N h1 hb he hl Fc
 by_cases h2:x.op=7
 . exact Azv ctx N Ov h2 hb he hl Fc
 by_cases h3:x.op=17
 . exact Azw ctx N Ov h3 hb he hl Fc
 by_cases h4:x.op=8
 . exact A4G ctx N Ov h4 hb he hl Fc
 by_cases h5:x.op=15
 . exact Azu ctx N Ov h5 hb he hl Fc
 by_cases h6:x.op=16
 . exact A4H ctx N Ov h6 hb he hl Fc
 exact Azx ctx N Ov ⟨h1,h2,h3,h4,h5,h6⟩ hb he hl Fc
def AcU (l:List Nd) (j:Nat):Int:=match l[j]? with|some y=>y.op|none=>0
def Qt (x:Nd):Bool:=decide (x.op<1)||decide (17<x.op)||(!decide (x.n=0)&&!decide (x.op=1))||(!decide (x.Zn=[])&&!decide (x.op=2)&&!decide (x.op=3))
def Ou (l:List Nd) (i:Nat) (x:Nd):Bool:=decide (x.op=3)&&(decide (i=0)||!decide (AcU l (i - 1)=2)||decide (l.length<=i+1)||(!decide (AcU l (i+1)=9)&&!decide (AcU l (i+1)=10)))
def Dm (l:List Nd):List Tr->Nat->List Nd->Option (List Tr)
 |st,_,[]=>some st
 |st,i,x::rest=>if Qt x||Ou l i x then none else match Fa st x with|some U0=>Dm l U0 (i+1) rest|none=>none
def Je (l:List Nd) (c:Bool):Option Tr:=match Dm l [] 0 l with|some [t]=>if F4 t=c then some t else none|_=>none
abbrev H63:Prop:=∀{h0 h:H} {bp m:Nat} {st:List Tr} {x:Nd},Ew h0.nx h bp st->Sx.Ext m h0 h->h0.nx+m+20<=Bq->st.length<=40000->Sx.Cb (m+10) h0 (Vl h0.nx bp (Fa st x)) (ctx.call 63 [.ptr bp 0,.agg (Bw x)] h)
theorem Arn {h:H} {v:AV} {l:List Nd} (hv:Zi h v l) {j:Nat} {y:Nd} (hj:l[j]?=some y):
 ∃b o cs e k,(∀h1,Gc 3 v (.int .i64 (j:Int)) h1=.ok (.ptr b o) h1)/\h.m.get b=.cells cs e k/\(∀hh,rdO (.cells cs e k) hh=some cs)/\b<h.nx/\cs[o]?=some (.int .i64 y.op)/\o+3<=cs.length/\(cs.drop o).take 3=Bw y:=by
 have hjl:=(List.getElem?_eq_some_iff.1 hj).1
 obtain ⟨b,o,cs,e,k,p1,p2,p3,p4,p5,p6⟩:=hv.ia hjl
 have hl:l=l.take j++y::l.drop (j+1):=by
  have:=List.getElem?_eq_some_iff.1 hj
  obtain ⟨h1,h2⟩:=this
  rw [<- h2,<- List.drop_eq_getElem_cons h1,List.take_append_drop]
 have h7:=Afy l (l.take j) y (l.drop (j+1)) hl
 rw [List.length_take,Nat.min_eq_left (by omega)] at h7
 rw [h7] at p6
 refine ⟨b,o,cs,e,k,p1,p2,λhh=>Sx.Dc p3,p4,?_,p5,p6⟩
 have h8:=congrArg (λq=>q[0]?) p6
 simpa [List.getElem?_take,List.getElem?_drop] using h8
def W8 (o:Option Tr) (v:AV) (h:H):Prop:=v=Yy o
theorem AbP {st U0:List Tr} {x:Nd} (h:Fa st x=some U0):U0.length<=st.length+1:=by
 have hp:∀(ts:List Bool) (r q:List Tr),Gf st ts=some (r,q)->r.length<=st.length:=by
  intro ts r q hq
  unfold Gf at hq
  split at hq
  . cases hq;simp [List.length_take]
  . cases hq
 unfold Fa at h
 split at h
 . cases h;simp
 . split at h
   . split at h
     . rename_i r a hq;cases h;have:=hp _ _ _ hq;simp;omega
     . cases h
   . split at h
     . split at h
       . rename_i r c a b hq;cases h;have:=hp _ _ _ hq;simp;omega
       . cases h
     . split at h
       . rename_i r a b hq;cases h;have:=hp _ _ _ hq;simp;omega
       . cases h
theorem Azc (h63:H63 ctx) (h64:H64 ctx) (c:Bool) (l:List Nd) (hlen:l.length<=3000) {h0:H} {v:AV} {bp M:Nat} (hv:Zi h0 v l) (AeB:h0.nx+M<=Bq):
 ∀(rest pre:List Nd) (st:List Tr) (h:H) (m:Nat) (f0:L2) (n1:Nat),l=pre++rest->rest.length+1<=n1->Sx.Ext m h0 h->m+20 * rest.length+20<=M->Ew h0.nx h bp st->st.length<=pre.length ->
  Sx.Cb M h0 (W8 (match Dm l st pre.length rest with|some [t]=>if F4 t=c then some t else none|_=>none)) (Alg ctx N n1 v (.bool c) (.ptr bp 0) v (.int .i64 (l.length:Int)) (.int .i64 (pre.length:Int)) f0 h):=by
 intro rest
 induction rest with
 |nil=>
  intro pre st h m f0 n1 Hk hn he hm hb Vt
  obtain ⟨n2,rfl⟩:∃n2,n1=n2+1:=⟨n1 - 1,by omega⟩
  have Z1:pre.length=l.length:=by rw [Hk];simp
  obtain ⟨sv,q1,q2⟩:=hb.at'
  rw [Ajh]
  refine Sx.Ag (Sx.Hf ..) ?_
  rw [show decide ((pre.length:Int)<(l.length:Int))=false by simp [Z1],Sx.Dq]
  have Z3:∀h1:H,Fo sv h1=.ok (.int .i64 (st.length:Int)) h1:=by
   intro h1
   rcases q2 with ⟨rfl,rfl⟩|⟨b,cap,c,k,n',rfl,_⟩<;>rfl
  by_cases h1:st.length=1
  . obtain ⟨t,rfl⟩:∃t,st=[t]:=List.length_eq_one_iff.1 h1
    rcases q2 with ⟨h5,_⟩|⟨b,cap,cs,k,n',rfl,r2,r3,r4,r5,r6,r7,r8⟩
    . simp at h5
    . have hc0:cs[0]?=some (A3 t):=by
       have h9:=congrArg (λq=>q[0]?) r7
       simpa [List.getElem?_take] using h9
      have hia:∀hh,Gc 1 (.sl b 0 [t].length cap 1 false) (.int .i64 ((0:Nat):Int)) hh=.ok (.ptr b (0+0 * 1)) hh:=λhh=>Sx.Agr 1 b 0 1 cap 1 false 0 (by omega)
      have A3P:∀hh,Gc 1 (.sl b 0 1 cap 1 false) (.int .i64 0) hh=.ok (.ptr b 0) hh:=hia
      have hln:∀hh,Fo (.sl b 0 1 cap 1 false) hh=.ok (.int .i64 1) hh:=λhh=>rfl
      have hld:Ae (some none) (.ptr b 0) h=.ok (A3 t) h:=Sx.Di r2 trivial hc0
      have A8n:=h64 t
      have hnb:∀(x:Bool) hh,Aj Tryz.prog .neq 4 false (.bool x) (.bool c) hh=.ok (.bool (true != (x == c))) hh:=λx hh=>Sx.Aig tk4 ..
      refine Sx.Ag (Sx.I0 ..) ?_
      refine Sx.Ag (Sx.E3 ..) ?_
      refine Sx.Ag (Sx.Di q1 trivial rfl) ?_
      refine Sx.Ag (hln _) ?_
      refine Sx.Ag (v:=.bool false) (h:=h) (by rw [Sx.Y6];rfl) ?_
      refine Sx.Ag (v:=.ptr bp 0) (h:=h) (Sx.Kk ..) ?_
      refine Sx.Ag (v:=.ptr bp 0) (h:=h) (by rw [Sx.Kk];exact Sx.I0 ..) ?_
      refine Sx.Ag (v:=.ptr bp 0) (h:=h) (by rw [Sx.Kk];exact Sx.E3 ..) ?_
      refine Sx.Ag (v:=.sl b 0 1 cap 1 false) (h:=h) (by rw [Sx.Kk];exact Sx.Di q1 trivial rfl) ?_
      refine Sx.Ag (v:=.ptr b 0) (h:=h) (by rw [Sx.Kk];exact A3P h) ?_
      refine Sx.Ag (v:=A3 t) (h:=h) (by rw [Sx.Kk];exact hld) ?_
      refine Sx.Ag (v:=.bool (decide (9<=t.op))) (h:=h) (by rw [Sx.Kk];exact A8n h) ?_
      refine Sx.Ag (v:=.bool c) (h:=h) (Sx.Kk ..) ?_
      refine Sx.Ag (v:=.bool (true != (decide (9<=t.op) == c))) (h:=h) (by rw [Sx.Kk];exact hnb _ h) ?_
      refine Sx.Ag (v:=.bool (true != (decide (9<=t.op) == c))) (h:=h) rfl ?_
      by_cases htc:F4 t=c
      . rw [show (true != (decide (9<=t.op) == c))=false by rw [<- htc];simp [F4],Sx.Dq]
        refine Sx.Ag (Sx.I0 ..) ?_
        refine Sx.Ag (Sx.E3 ..) ?_
        refine Sx.Ag (Sx.Di q1 trivial rfl) ?_
        refine Sx.Ag (A3P h) ?_
        refine Sx.Ag hld ?_
        refine Sx.B0 he (by omega) ?_
        simp [W8,Dm,htc,D9]
      . rw [show (true != (decide (9<=t.op) == c))=true by
         have:(decide (9<=t.op) == c)=false:=by simpa [F4] using htc
         rw [this];rfl,Sx.Ep]
        refine Sx.B0 he (by omega) ?_
        simp [W8,Dm,htc,D9]
  . have hd:(!decide ((st.length:Int)=1))=true:=by simp;omega
    have G8:(match Dm l st pre.length [] with|some [t]=>if F4 t=c then some t else none|_=>none)=none:=by
     simp only [Dm]
     match st,h1 with
     |[],_=>rfl
     |[t],hh=>simp at hh
     |t::t2::U0,_=>rfl
    rw [G8]
    refine Sx.Ag (Sx.I0 ..) ?_
    refine Sx.Ag (Sx.E3 ..) ?_
    refine Sx.Ag (Sx.Di q1 trivial rfl) ?_
    refine Sx.Ag (Z3 _) ?_
    refine Sx.Ag (v:=.bool true) (h:=h) (by rw [Sx.Y6,hd]) ?_
    repeat' (first|with_reducible (first|apply J4|apply J1|apply J5|apply Ko)|(with_reducible (first|apply Wx|apply Vz|apply Wy);(conv=>lhs;simp (disch:=first|exact Ce|fail) [lc]);with_reducible (first|apply J4|apply J1|apply J5|apply Ko|(refine Y7 (by simp) ?_))))
    exact Sx.B0 he (by omega) rfl
 |cons x rest ih=>
  intro pre st h m f0 n1 Hk hn he hm hb Vt
  obtain ⟨n2,rfl⟩:∃n2,n1=n2+1:=⟨n1 - 1,by omega⟩
  have S4:l.length=pre.length+(rest.length+1):=by rw [Hk];simp
  simp only [List.length_cons] at hm hn
  have hhi:=he.hi
  have Kf:=he.lo
  have hx:l[pre.length]?=some x:=by rw [Hk];simp
  obtain ⟨b,o,cs,e,k,p1,p2,p3,p4,p5,p6,p7⟩:=Arn (hv.ext he) hx
  rw [Ajh]
  refine Sx.Ag (Sx.Hf ..) ?_
  rw [show decide ((pre.length:Int)<(l.length:Int))=true by simp [S4];omega,Sx.Ep]
  refine Sx.Ag (p1 h) ?_
  refine Sx.Ag (v:=.agg (Bw x)) (h:=h) (by rw [Sx.Nu,p2,p3,Sx.S9,Sx.AcC,E5,if_pos p6,p7];rfl) ?_
  refine Sx.Ag (Sx.AeI ..) ?_
  refine Sx.Ag (v:=.Bj []) (h:=(h.new (.cells [.int .i64 0,.int .i64 0,.str []] 32 .exact)).put h.nx (.cells (Bw x) 32 .exact)) (by simp (disch:=first|omega|(simp only [Sx.Z9];omega)) [Kh,Bw]) ?_
  have e1:=Xo he (.cells [.int .i64 0,.int .i64 0,.str []] 32 .exact) (.cells (Bw x) 32 .exact) (by omega)
  have e1':=Xo (Sx.Ext.refl 0 h) (.cells [.int .i64 0,.int .i64 0,.str []] 32 .exact) (.cells (Bw x) 32 .exact) (by omega)
  have g1:((h.new (.cells [.int .i64 0,.int .i64 0,.str []] 32 .exact)).put h.nx (.cells (Bw x) 32 .exact)).m.get h.nx=.cells (Bw x) 32 .exact:=Sx.Dz _ _ (by omega)
  have hx1:((h.new (.cells [.int .i64 0,.int .i64 0,.str []] 32 .exact)).put h.nx (.cells (Bw x) 32 .exact)).nx=h.nx+1:=rfl
  have hv1:=hv.ext e1
  have Qy:=hb.ext e1'
  generalize ((h.new (.cells [.int .i64 0,.int .i64 0,.str []] 32 .exact)).put h.nx (.cells (Bw x) 32 .exact))=h5 at *
  repeat' (first|with_reducible apply Sx.F0|with_reducible apply Sx.Gx|with_reducible apply Sx.Gw|(with_reducible apply Sx.Ahz;(conv=>arg 4;arg 1;simp (disch:=first|exact Ce|fail) [lc,Sx.C8,Sx.Cm,Sx.Cn,Sx.Co,Sx.Cp,Sx.Dt,Sx.C7,g1,Bw]);with_reducible apply Sx.F0)|(with_reducible apply Sx.Hy;· intro hc;first|((try simp only [Bool.not_or,Bool.not_and,Bool.not_not] at hc);(conv=>lhs;simp (disch:=first|exact Ce|fail) [hc,lc,Sx.C8,Sx.Cm,Sx.Cn,Sx.Co,Sx.Cp,Sx.Dt,Sx.C7,g1,Bw]);try exact rfl;done)|((try simp only [Bool.and_eq_true,Bool.or_eq_false_iff,Bool.or_eq_true,Bool.and_eq_false_imp,Bool.not_eq_true',Bool.not_eq_false',decide_eq_true_eq,decide_eq_false_iff_not] at hc);(conv=>lhs;simp (disch:=first|exact Ce|fail) [hc,lc,Sx.C8,Sx.Cm,Sx.Cn,Sx.Co,Sx.Cp,Sx.Dt,Sx.C7,g1,Bw]);try exact rfl;done))|(with_reducible apply Sx.Ahz;(conv=>arg 4;arg 1;simp only [Sx.Cm,Sx.Cn,Sx.Co,Sx.Cp]);with_reducible apply Sx.Hy;· intro hc;first|((try simp only [Bool.not_or,Bool.not_and,Bool.not_not] at hc);(conv=>lhs;simp (disch:=first|exact Ce|fail) [hc,lc,Sx.C8,Sx.Cm,Sx.Cn,Sx.Co,Sx.Cp,Sx.Dt,Sx.C7,g1,Bw]);try exact rfl;done)|((try simp only [Bool.and_eq_true,Bool.or_eq_false_iff,Bool.or_eq_true,Bool.and_eq_false_imp,Bool.not_eq_true',Bool.not_eq_false',decide_eq_true_eq,decide_eq_false_iff_not] at hc);(conv=>lhs;simp (disch:=first|exact Ce|fail) [hc,lc,Sx.C8,Sx.Cm,Sx.Cn,Sx.Co,Sx.Cp,Sx.Dt,Sx.C7,g1,Bw]);try exact rfl;done))|(with_reducible apply Sx.Atz;(conv=>arg 4;arg 1;simp (disch:=first|exact Ce|fail) [lc,Sx.C8,Sx.Cm,Sx.Cn,Sx.Co,Sx.Cp,Sx.Dt,Sx.C7,g1,Bw]);first|with_reducible apply Sx.Gx|with_reducible apply Sx.Gw))
  refine Sx.AmI (λhc=>?_) (λhc=>?_)
  . have At8:Qt x=true:=hc
    refine Sx.B0 e1 (by omega) ?_
    simp [W8,Dm,At8,D9]
  . have At8:Qt x=false:=hc
    have Cg:∀(Wg:Ou l pre.length x=false) (K:AV->H->OR),(∀(h6:H) (m6:Nat) (U0:List Tr),Fa st x=some U0->Sx.Ext m6 h0 h6->m6=m+1+10->Ew h0.nx h6 bp U0->Sx.Cb M h0 (W8 (match Dm l U0 (pre.length+1) rest with|some [t]=>if F4 t=c then some t else none|_=>none)) (K (.bool true) h6)) ->
     (∀(h6:H),Sx.Ext (m+1+10) h0 h6->Sx.Cb M h0 (W8 none) (K (.bool false) h6)) ->
     Sx.Cb M h0 (W8 (match Dm l st pre.length (x::rest) with|some [t]=>if F4 t=c then some t else none|_=>none)) (Aa (ctx.call 63 [.ptr bp 0,.agg (Bw x)] h5) K):=by
     intro Wg K hK1 hK2
     refine Sx.Jh (h63 Qy e1 (by omega) (by omega)) λr h6 e6 Lp=>?_
     cases hs:Fa st x with
     |none=>
      rw [hs] at Lp
      have hr:r=.bool false:=Lp
      subst hr
      have:=hK2 h6 e6
      simpa [Dm,At8,Wg,hs] using this
     |some U0=>
      rw [hs] at Lp
      obtain ⟨hr,G8⟩:r=.bool true/\Ew h0.nx h6 bp U0:=Lp
      subst hr
      have:=hK1 h6 _ U0 hs e6 rfl G8
      simpa [Dm,At8,Wg,hs] using this
    by_cases h3:x.op=3
    . have AtJ:=hv1.len (h1:=h5)
      have hnd:[AV.int .i64 3,.int .i64 x.n,.str x.Zn]=Bw x:=by simp [Bw,h3]
      have Jr:∀hh,Fo v hh=.ok (.int .i64 (l.length:Int)) hh:=λhh=>hv1.len
      have hwa:E1 .i64 ((pre.length:Int)+1)=(pre.length:Int)+1:=by rw [Sx.Cr]<;>omega
      have At9:Ou l pre.length x=true->Sx.Cb M h0 (W8 (match Dm l st pre.length (x::rest) with|some [t]=>if F4 t=c then some t else none|_=>none)) (.ok (.Bj [.B3,.bool false]) h5):=λWg=>Sx.B0 e1 (by omega) (by simp [W8,Dm,Wg,D9])
      rcases Nat.eq_zero_or_pos pre.length with hp0|hp0
      . have hd0:decide (pre=[])=true:=by simpa using hp0
        repeat' (first|with_reducible (first|apply J4|apply J1|apply J5|apply Ko)|(with_reducible (first|apply Wx|apply Vz|apply Wy);(conv=>lhs;simp (disch:=first|exact Ce|fail) [lc,g1,Bw,h3,hd0]);with_reducible (first|apply J4|apply J1|apply J5|apply Ko|(refine Y7 (by simp) ?_))))
        exact At9 (by simp [Ou,h3,hp0])
      . have hd0:decide (pre=[])=false:=decide_eq_false (λhh=>by rw [hh] at hp0;simp at hp0)
        have hws:E1 .i64 ((pre.length:Int) - 1)=((pre.length - 1:Nat):Int):=by rw [Sx.Cr]<;>omega
        obtain ⟨y,hy⟩:∃y,l[pre.length - 1]?=some y:=⟨l[pre.length - 1]'(by omega),List.getElem?_eq_getElem (by omega)⟩
        have hya:AcU l (pre.length - 1)=y.op:=by unfold AcU;rw [hy]
        obtain ⟨yb,yo,ycs,ye,yk,y1,y2,y3,y4,y5,-,-⟩:=Arn hv1 hy
        by_cases hy2:y.op=2
        . by_cases AqD:l.length<=pre.length+1
          . have hd1:decide ((l.length:Int)<=(pre.length:Int)+1)=true:=by simp;omega
            repeat' (first|with_reducible (first|apply J4|apply J1|apply J5|apply Ko)|(with_reducible (first|apply Wx|apply Vz|apply Wy);(conv=>lhs;simp (disch:=first|exact Ce|fail) [lc,g1,Bw,h3,hd0,hws,y1,y2,y3,y5,hy2,hwa,Jr,hd1]);with_reducible (first|apply J4|apply J1|apply J5|apply Ko|(refine Y7 (by simp) ?_))))
            exact At9 (by simp [Ou,h3,hya,hy2,AqD])
          . have hd1:decide ((l.length:Int)<=(pre.length:Int)+1)=false:=by simp;omega
            obtain ⟨z,hz⟩:∃z,l[pre.length+1]?=some z:=⟨l[pre.length+1]'(by omega),List.getElem?_eq_getElem (by omega)⟩
            have hza:AcU l (pre.length+1)=z.op:=by unfold AcU;rw [hz]
            obtain ⟨zb,zo,zcs,ze,zk,z1,z2,z3,z4,z5,-,-⟩:=Arn hv1 hz
            have z1':∀hh,Gc 3 v (.int .i64 ((pre.length:Int)+1)) hh=.ok (.ptr zb zo) hh:=λhh=>by simpa using z1 hh
            by_cases hz9:z.op=9
            . have Wg:Ou l pre.length x=false:=by simp [Ou,h3,hya,hy2,hza,hz9,AqD,List.ne_nil_of_length_pos hp0]
              repeat' (first|with_reducible (first|apply J4|apply J1|apply J5|apply Ko)|(with_reducible (first|apply Wx|apply Vz|apply Wy);(conv=>lhs;simp (disch:=first|exact Ce|fail) [lc,g1,Bw,h3,hd0,hws,y1,y2,y3,y5,hy2,hwa,Jr,hd1,z1',z2,z3,z5,hz9]);with_reducible (first|apply J4|apply J1|apply J5|apply Ko|(refine Y7 (by simp) ?_))))
              rw [hnd]
              refine Cg Wg _ (λh6 m6 U0 hs e6 hm6 G8=>?_) (λh6 e6=>?_)
              . repeat' (first|with_reducible (first|apply J4|apply J1|apply J5|apply Ko)|(with_reducible (first|apply Wx|apply Vz|apply Wy);(conv=>lhs;simp (disch:=first|exact Ce|fail) [lc]);with_reducible (first|apply J4|apply J1|apply J5|apply Ko|(refine Y7 (by simp) ?_))))
                subst hm6
                have hi:=λf=>ih (pre++[x]) U0 h6 (m+1+10) f n2 (by rw [Hk];simp) (by omega) e6 (by omega) G8 (by have:=AbP hs;simp;omega)
                have X2:((pre++[x]).length:Int)=(pre.length:Int)+1:=by simp
                simp only [X2,List.length_append,List.length_cons,List.length_nil,Nat.zero_add] at hi
                rw [Sx.Cr _ (by omega) (by omega)]
                exact hi _
              . repeat' (first|with_reducible (first|apply J4|apply J1|apply J5|apply Ko)|(with_reducible (first|apply Wx|apply Vz|apply Wy);(conv=>lhs;simp (disch:=first|exact Ce|fail) [lc]);with_reducible (first|apply J4|apply J1|apply J5|apply Ko|(refine Y7 (by simp) ?_))))
                exact Sx.B0 e6 (by omega) rfl
            . by_cases AtW:z.op=10
              . have Wg:Ou l pre.length x=false:=by simp [Ou,h3,hya,hy2,hza,AtW,AqD,List.ne_nil_of_length_pos hp0]
                repeat' (first|with_reducible (first|apply J4|apply J1|apply J5|apply Ko)|(with_reducible (first|apply Wx|apply Vz|apply Wy);(conv=>lhs;simp (disch:=first|exact Ce|fail) [lc,g1,Bw,h3,hd0,hws,y1,y2,y3,y5,hy2,hwa,Jr,hd1,z1',z2,z3,z5,AtW]);with_reducible (first|apply J4|apply J1|apply J5|apply Ko|(refine Y7 (by simp) ?_))))
                rw [hnd]
                refine Cg Wg _ (λh6 m6 U0 hs e6 hm6 G8=>?_) (λh6 e6=>?_)
                . repeat' (first|with_reducible (first|apply J4|apply J1|apply J5|apply Ko)|(with_reducible (first|apply Wx|apply Vz|apply Wy);(conv=>lhs;simp (disch:=first|exact Ce|fail) [lc]);with_reducible (first|apply J4|apply J1|apply J5|apply Ko|(refine Y7 (by simp) ?_))))
                  subst hm6
                  have hi:=λf=>ih (pre++[x]) U0 h6 (m+1+10) f n2 (by rw [Hk];simp) (by omega) e6 (by omega) G8 (by have:=AbP hs;simp;omega)
                  have X2:((pre++[x]).length:Int)=(pre.length:Int)+1:=by simp
                  simp only [X2,List.length_append,List.length_cons,List.length_nil,Nat.zero_add] at hi
                  rw [Sx.Cr _ (by omega) (by omega)]
                  exact hi _
                . repeat' (first|with_reducible (first|apply J4|apply J1|apply J5|apply Ko)|(with_reducible (first|apply Wx|apply Vz|apply Wy);(conv=>lhs;simp (disch:=first|exact Ce|fail) [lc]);with_reducible (first|apply J4|apply J1|apply J5|apply Ko|(refine Y7 (by simp) ?_))))
                  exact Sx.B0 e6 (by omega) rfl
              . repeat' (first|with_reducible (first|apply J4|apply J1|apply J5|apply Ko)|(with_reducible (first|apply Wx|apply Vz|apply Wy);(conv=>lhs;simp (disch:=first|exact Ce|fail) [lc,g1,Bw,h3,hd0,hws,y1,y2,y3,y5,hy2,hwa,Jr,hd1,z1',z2,z3,z5,hz9,AtW]);with_reducible (first|apply J4|apply J1|apply J5|apply Ko|(refine Y7 (by simp) ?_))))
                exact At9 (by simp [Ou,h3,hya,hy2,hza,hz9,AtW])
        . repeat' (first|with_reducible (first|apply J4|apply J1|apply J5|apply Ko)|(with_reducible (first|apply Wx|apply Vz|apply Wy);(conv=>lhs;simp (disch:=first|exact Ce|fail) [lc,g1,Bw,h3,hd0,hws,y1,y2,y3,y5,hy2]);with_reducible (first|apply J4|apply J1|apply J5|apply Ko|(refine Y7 (by simp) ?_))))
          exact At9 (by simp [Ou,h3,hya,hy2])
    . have Wg:Ou l pre.length x=false:=by simp [Ou,h3]
      repeat' (first|with_reducible apply Sx.F0|with_reducible apply Sx.Gx|with_reducible apply Sx.Gw|(with_reducible apply Sx.Ahz;(conv=>arg 4;arg 1;simp (disch:=first|exact Ce|fail) [lc,Sx.C8,Sx.Cm,Sx.Cn,Sx.Co,Sx.Cp,Sx.Dt,Sx.C7,g1,Bw,h3]);with_reducible apply Sx.F0)|(with_reducible apply Sx.Hy;· intro hc;first|((try simp only [Bool.not_or,Bool.not_and,Bool.not_not] at hc);(conv=>lhs;simp (disch:=first|exact Ce|fail) [hc,lc,Sx.C8,Sx.Cm,Sx.Cn,Sx.Co,Sx.Cp,Sx.Dt,Sx.C7,g1,Bw,h3]);try exact rfl;done)|((try simp only [Bool.and_eq_true,Bool.or_eq_false_iff,Bool.or_eq_true,Bool.and_eq_false_imp,Bool.not_eq_true',Bool.not_eq_false',decide_eq_true_eq,decide_eq_false_iff_not] at hc);(conv=>lhs;simp (disch:=first|exact Ce|fail) [hc,lc,Sx.C8,Sx.Cm,Sx.Cn,Sx.Co,Sx.Cp,Sx.Dt,Sx.C7,g1,Bw,h3]);try exact rfl;done))|(with_reducible apply Sx.Ahz;(conv=>arg 4;arg 1;simp only [Sx.Cm,Sx.Cn,Sx.Co,Sx.Cp]);with_reducible apply Sx.Hy;· intro hc;first|((try simp only [Bool.not_or,Bool.not_and,Bool.not_not] at hc);(conv=>lhs;simp (disch:=first|exact Ce|fail) [hc,lc,Sx.C8,Sx.Cm,Sx.Cn,Sx.Co,Sx.Cp,Sx.Dt,Sx.C7,g1,Bw,h3]);try exact rfl;done)|((try simp only [Bool.and_eq_true,Bool.or_eq_false_iff,Bool.or_eq_true,Bool.and_eq_false_imp,Bool.not_eq_true',Bool.not_eq_false',decide_eq_true_eq,decide_eq_false_iff_not] at hc);(conv=>lhs;simp (disch:=first|exact Ce|fail) [hc,lc,Sx.C8,Sx.Cm,Sx.Cn,Sx.Co,Sx.Cp,Sx.Dt,Sx.C7,g1,Bw,h3]);try exact rfl;done))|(with_reducible apply Sx.Atz;(conv=>arg 4;arg 1;simp (disch:=first|exact Ce|fail) [lc,Sx.C8,Sx.Cm,Sx.Cn,Sx.Co,Sx.Cp,Sx.Dt,Sx.C7,g1,Bw,h3]);first|with_reducible apply Sx.Gx|with_reducible apply Sx.Gw))
      refine Cg Wg _ (λh6 m6 U0 hs e6 hm6 G8=>?_) (λh6 e6=>?_)
      . repeat' (first|with_reducible apply Sx.F0|with_reducible apply Sx.Gx|with_reducible apply Sx.Gw|(with_reducible apply Sx.Ahz;(conv=>arg 4;arg 1;simp (disch:=first|exact Ce|fail) [lc,Sx.C8,Sx.Cm,Sx.Cn,Sx.Co,Sx.Cp,Sx.Dt,Sx.C7]);with_reducible apply Sx.F0)|(with_reducible apply Sx.Hy;· intro hc;first|((try simp only [Bool.not_or,Bool.not_and,Bool.not_not] at hc);(conv=>lhs;simp (disch:=first|exact Ce|fail) [hc,lc,Sx.C8,Sx.Cm,Sx.Cn,Sx.Co,Sx.Cp,Sx.Dt,Sx.C7]);try exact rfl;done)|((try simp only [Bool.and_eq_true,Bool.or_eq_false_iff,Bool.or_eq_true,Bool.and_eq_false_imp,Bool.not_eq_true',Bool.not_eq_false',decide_eq_true_eq,decide_eq_false_iff_not] at hc);(conv=>lhs;simp (disch:=first|exact Ce|fail) [hc,lc,Sx.C8,Sx.Cm,Sx.Cn,Sx.Co,Sx.Cp,Sx.Dt,Sx.C7]);try exact rfl;done))|(with_reducible apply Sx.Ahz;(conv=>arg 4;arg 1;simp only [Sx.Cm,Sx.Cn,Sx.Co,Sx.Cp]);with_reducible apply Sx.Hy;· intro hc;first|((try simp only [Bool.not_or,Bool.not_and,Bool.not_not] at hc);(conv=>lhs;simp (disch:=first|exact Ce|fail) [hc,lc,Sx.C8,Sx.Cm,Sx.Cn,Sx.Co,Sx.Cp,Sx.Dt,Sx.C7]);try exact rfl;done)|((try simp only [Bool.and_eq_true,Bool.or_eq_false_iff,Bool.or_eq_true,Bool.and_eq_false_imp,Bool.not_eq_true',Bool.not_eq_false',decide_eq_true_eq,decide_eq_false_iff_not] at hc);(conv=>lhs;simp (disch:=first|exact Ce|fail) [hc,lc,Sx.C8,Sx.Cm,Sx.Cn,Sx.Co,Sx.Cp,Sx.Dt,Sx.C7]);try exact rfl;done))|(with_reducible apply Sx.Atz;(conv=>arg 4;arg 1;simp (disch:=first|exact Ce|fail) [lc,Sx.C8,Sx.Cm,Sx.Cn,Sx.Co,Sx.Cp,Sx.Dt,Sx.C7]);first|with_reducible apply Sx.Gx|with_reducible apply Sx.Gw))
        subst hm6
        have hi:=λf=>ih (pre++[x]) U0 h6 (m+1+10) f n2 (by rw [Hk];simp) (by omega) e6 (by omega) G8 (by have:=AbP hs;simp;omega)
        have X2:((pre++[x]).length:Int)=(pre.length:Int)+1:=by simp
        simp only [X2,List.length_append,List.length_cons,List.length_nil,Nat.zero_add] at hi
        rw [Sx.Cr _ (by omega) (by omega)]
        exact hi _
      . repeat' (first|with_reducible apply Sx.F0|with_reducible apply Sx.Gx|with_reducible apply Sx.Gw|(with_reducible apply Sx.Ahz;(conv=>arg 4;arg 1;simp (disch:=first|exact Ce|fail) [lc,Sx.C8,Sx.Cm,Sx.Cn,Sx.Co,Sx.Cp,Sx.Dt,Sx.C7]);with_reducible apply Sx.F0)|(with_reducible apply Sx.Hy;· intro hc;first|((try simp only [Bool.not_or,Bool.not_and,Bool.not_not] at hc);(conv=>lhs;simp (disch:=first|exact Ce|fail) [hc,lc,Sx.C8,Sx.Cm,Sx.Cn,Sx.Co,Sx.Cp,Sx.Dt,Sx.C7]);try exact rfl;done)|((try simp only [Bool.and_eq_true,Bool.or_eq_false_iff,Bool.or_eq_true,Bool.and_eq_false_imp,Bool.not_eq_true',Bool.not_eq_false',decide_eq_true_eq,decide_eq_false_iff_not] at hc);(conv=>lhs;simp (disch:=first|exact Ce|fail) [hc,lc,Sx.C8,Sx.Cm,Sx.Cn,Sx.Co,Sx.Cp,Sx.Dt,Sx.C7]);try exact rfl;done))|(with_reducible apply Sx.Ahz;(conv=>arg 4;arg 1;simp only [Sx.Cm,Sx.Cn,Sx.Co,Sx.Cp]);with_reducible apply Sx.Hy;· intro hc;first|((try simp only [Bool.not_or,Bool.not_and,Bool.not_not] at hc);(conv=>lhs;simp (disch:=first|exact Ce|fail) [hc,lc,Sx.C8,Sx.Cm,Sx.Cn,Sx.Co,Sx.Cp,Sx.Dt,Sx.C7]);try exact rfl;done)|((try simp only [Bool.and_eq_true,Bool.or_eq_false_iff,Bool.or_eq_true,Bool.and_eq_false_imp,Bool.not_eq_true',Bool.not_eq_false',decide_eq_true_eq,decide_eq_false_iff_not] at hc);(conv=>lhs;simp (disch:=first|exact Ce|fail) [hc,lc,Sx.C8,Sx.Cm,Sx.Cn,Sx.Co,Sx.Cp,Sx.Dt,Sx.C7]);try exact rfl;done))|(with_reducible apply Sx.Atz;(conv=>arg 4;arg 1;simp (disch:=first|exact Ce|fail) [lc,Sx.C8,Sx.Cm,Sx.Cn,Sx.Co,Sx.Cp,Sx.Dt,Sx.C7]);first|with_reducible apply Sx.Gx|with_reducible apply Sx.Gw))
        exact Sx.B0 e6 (by omega) rfl
theorem n28 (h63:H63 ctx) (h64:H64 ctx) (c:Bool) (l:List Nd) (hlen:l.length<=3000) (hN:l.length+1<=N) {h:H} {v:AV} (hv:Zi h v l) (AeB:h.nx+(20 * l.length+30)<=Bq):
 Sx.Cb (20 * l.length+30) h (λv _=>v=Yy (Je l c)) (Ay Tryz.prog ctx N true 28 [v,.bool c] h):=by
 rw [e28]
 refine Sx.Ag (Sx.Hg ..) ?_
 have e1:=(Sx.Ext.refl 0 h).new (.cells [.Bv] 105 .exact) (by omega)
 refine Sx.Ag hv.len ?_
 have hb:Ew h.nx (h.new (.cells [.Bv] 105 .exact)) h.nx []:=⟨Nat.le_refl _,by show h.nx<h.nx+1;omega,.Bv,Sx.A6 _ (by omega),.inl ⟨rfl,rfl⟩⟩
 exact Azc ctx N h63 h64 c l hlen hv AeB l [] [] _ 1 _ N rfl hN e1 (by omega) hb (Nat.le_refl _)
end Go.Proofs
