/- The builder of expressions: add with two operands; add. build: a list of nodes read as an expression. -/
import Derived.Test.YtecikbfimlolcaaGreatDoorEvNe
import Derived.Test.YtecikbfimlolcaaGreatDoorEvQb
set_option maxRecDepth 100000
set_option linter.unusedSimpArgs false
set_option linter.unusedVariables false
set_option linter.unusedSectionVars false
namespace Go.Proofs
open Go Go.Ev Go.Nm
attribute [local irreducible] Aa Aj Ah Ac
variable [Lim]
variable (ctx:Ae) (N:Nat)
theorem n63and (h108:H108 ctx) {h0 h:H} {bp m:Nat} {st:List Tr} {x:Nd} (hx:x.op=15) (hb:Eo h0.nx h bp st) (he:Sx.Ext m h0 h) (hl:h0.nx+m+20<=Bh) (hsz:st.length<=40000):
 Sx.B3 (m+10) h0 (Added h0.nx bp (addS st x)) (An Tryz.prog ctx N false 63 [.ptr bp 0,.agg (Bq x)] h):=by
 have hp2:=hb.p2
 have hhi0:=he.hi
 have hlo0:=he.lo
 have hadd:addS st x=(match Gc st [decide (x.op=15)||decide (x.op=16),decide (x.op=15)||decide (x.op=16)] with|some (r,[a,b])=>some (r++[.two x.op a b])|_=>none):=by unfold addS;rw [if_neg (by omega),if_neg (by omega),if_neg (by omega)];rfl
 rw [hadd,e63]
 have e1:=he.new (.cells (Bq x) 32 .exact) (by omega)
 have hb1:=hb.ext ((Sx.Ext.refl 0 h).new (.cells (Bq x) 32 .exact) (by omega))
 have hg1:(h.new (.cells (Bq x) 32 .exact)).m.get h.nx=.cells (Bq x) 32 .exact:=Sx.Az _ (by omega)
 have hn1:(h.new (.cells (Bq x) 32 .exact)).nx=h.nx+1:=rfl
 refine Sx.Ag (Sx.xBox_agg ..) ?_
 generalize h.new (.cells (Bq x) 32 .exact)=h4 at *
 have hd:(decide (x.op=15)||decide (x.op=16))=true:=by simp [hx]
 repeat' (first|with_reducible (first|apply xa1|apply xa2|apply xa3|apply xa4)|(with_reducible (first|apply xb1|apply xb2|apply xb3);(conv=>lhs;simp (disch:=first|exact Ch|fail) [lc,hg1,Bq,hx]);with_reducible (first|apply xa1|apply xa2|apply xa3|apply xa4|(refine xa6 (by simp) ?_))))
 rw [hd]
 have e2:=e1.new (.cells [.bool true,.bool true] 4 .exact) (by omega)
 have e2':=(Sx.Ext.refl 0 h4).new (.cells [.bool true,.bool true] 4 .exact) (by omega)
 have hw:BsAt (h4.new (.cells [.bool true,.bool true] 4 .exact)) (.sl h4.nx 0 2 2 1 true) [true,true]:=⟨.inr ⟨h4.nx,0,2,true,[.bool true,.bool true],4,.exact,rfl,Nat.le_refl _,Sx.Az _ (by omega),trivial,by show h4.nx<h4.nx+1;omega,by simp,rfl⟩⟩
 have hg5:(h4.new (.cells [.bool true,.bool true] 4 .exact)).m.get h.nx=.cells (Bq x) 32 .exact:=by rw [e2'.old _ (by omega)];exact hg1
 refine Sx.gets_bind0 (h108 (hb1.ext e2') (by simp) hw e2 (by show h4.nx+1+3<=Bh;omega) hsz (by simp)) fun r h29 e3 hpop=>?_
 obtain ⟨⟨hlo29,hkeep⟩,hpop⟩:=hpop
 have hg29:h29.m.get h.nx=.cells (Bq x) 32 .exact:=by rw [hkeep _ (by show h.nx<h4.nx+1;omega) (by omega)];exact hg5
 have hhi:=e3.hi
 rcases hpop with ⟨v,rfl,hle,heq,htr,hbl⟩|⟨v,rfl,hno2⟩
 . have hlen:(st.drop (st.length - [true,true].length)).length=2:=by rw [List.length_drop];simp at hle ⊢;omega
   obtain ⟨a,b,ha⟩:∃ a b,st.drop (st.length - [true,true].length)=[a,b]:=len2 hlen
   have hpopS:Gc st [true,true]=some (st.take (st.length - [true,true].length),[a,b]):=by unfold Gc;rw [if_pos ⟨hle,heq⟩,ha]
   rw [hpopS]
   rw [ha] at htr
   obtain ⟨b0,o0,cs0,ee0,k0,p10,p20,p30,p40,p50⟩:=at_elem htr (i:=0) (x:=a) rfl
   have p60:∀ h1,E3 1 v (.int .i64 0) h1=.ok (.ptr b0 o0) h1:=p10
   have p70:∀ hh,rdO (.cells cs0 ee0 k0) hh=some cs0:=fun hh=>Sx.C4 p30
   obtain ⟨b1,o1,cs1,ee1,k1,p11,p21,p31,p41,p51⟩:=at_elem htr (i:=1) (x:=b) rfl
   have p61:∀ h1,E3 1 v (.int .i64 1) h1=.ok (.ptr b1 o1) h1:=p11
   have p71:∀ hh,rdO (.cells cs1 ee1 k1) hh=some cs1:=fun hh=>Sx.C4 p31
   obtain ⟨sv,q1,q2⟩:=hbl.at'
   repeat' (first|with_reducible (first|apply xa1|apply xa2|apply xa3|apply xa4)|(with_reducible (first|apply xb1|apply xb2|apply xb3);(conv=>lhs;simp (disch:=first|exact Ch|fail) [lc,hg29,q1,p60,p20,p70,p50,p61,p21,p71,p51,Bq]);with_reducible (first|apply xa1|apply xa2|apply xa3|apply xa4|(refine xa6 (by simp) ?_))))
   refine push_seq (h:=h29) (t:=.two x.op a b) hbl q1 e3.Ab (by omega) (by rw [List.length_take];omega) fun sv2 h2 f1 f2 f3=>?_
   refine Sx.gets_drEnd ?_ ?_
   . refine effOk_all _ fun e he=>?_
     simp only [List.mem_cons,List.not_mem_nil,or_false] at he
     rcases he with rfl|rfl|rfl|rfl|rfl|rfl|rfl|rfl|rfl|rfl|rfl|rfl|rfl|rfl|rfl|rfl|rfl|rfl|rfl|rfl
     all_goals first|exact .inl rfl|exact .inr (by simp (disch:=decide) only [Sx.Ek,Sx.E4,Sx.Fv,Sx.Br,Sx.B4,Bool.and_self])
   . refine Sx.Bs (f1.Ap _ fun z hz=>?_) (by omega) ⟨rfl,f3.Ap _⟩
     simp only [Sx.A8,Sx.Bk,List.mem_append,List.not_mem_nil,false_or] at hz
     repeat' (rcases hz with hz|hz)
     all_goals first|exact (nomem (Cc _ _ _ hz)).elim|exact .inr (f2 z (Cc _ _ _ hz))|exact .inr (put1 hb.p1 (Cc _ _ _ hz))|exact e3.lg z hz
 . have hpopS:Gc st [true,true]=none:=by unfold Gc;rw [if_neg hno2]
   rw [hpopS]
   repeat' (first|with_reducible (first|apply xa1|apply xa2|apply xa3|apply xa4)|(with_reducible (first|apply xb1|apply xb2|apply xb3);(conv=>lhs;simp (disch:=first|exact Ch|fail) [lc]);with_reducible (first|apply xa1|apply xa2|apply xa3|apply xa4|(refine xa6 (by simp) ?_))))
   exact Sx.Bs e3 (by omega) rfl
theorem n63or (h108:H108 ctx) {h0 h:H} {bp m:Nat} {st:List Tr} {x:Nd} (hx:x.op=16) (hb:Eo h0.nx h bp st) (he:Sx.Ext m h0 h) (hl:h0.nx+m+20<=Bh) (hsz:st.length<=40000):
 Sx.B3 (m+10) h0 (Added h0.nx bp (addS st x)) (An Tryz.prog ctx N false 63 [.ptr bp 0,.agg (Bq x)] h):=by
 have hp2:=hb.p2
 have hhi0:=he.hi
 have hlo0:=he.lo
 have hadd:addS st x=(match Gc st [decide (x.op=15)||decide (x.op=16),decide (x.op=15)||decide (x.op=16)] with|some (r,[a,b])=>some (r++[.two x.op a b])|_=>none):=by unfold addS;rw [if_neg (by omega),if_neg (by omega),if_neg (by omega)];rfl
 rw [hadd,e63]
 have e1:=he.new (.cells (Bq x) 32 .exact) (by omega)
 have hb1:=hb.ext ((Sx.Ext.refl 0 h).new (.cells (Bq x) 32 .exact) (by omega))
 have hg1:(h.new (.cells (Bq x) 32 .exact)).m.get h.nx=.cells (Bq x) 32 .exact:=Sx.Az _ (by omega)
 have hn1:(h.new (.cells (Bq x) 32 .exact)).nx=h.nx+1:=rfl
 refine Sx.Ag (Sx.xBox_agg ..) ?_
 generalize h.new (.cells (Bq x) 32 .exact)=h4 at *
 have hd:(decide (x.op=15)||decide (x.op=16))=true:=by simp [hx]
 repeat' (first|with_reducible (first|apply xa1|apply xa2|apply xa3|apply xa4)|(with_reducible (first|apply xb1|apply xb2|apply xb3);(conv=>lhs;simp (disch:=first|exact Ch|fail) [lc,hg1,Bq,hx]);with_reducible (first|apply xa1|apply xa2|apply xa3|apply xa4|(refine xa6 (by simp) ?_))))
 rw [hd]
 have e2:=e1.new (.cells [.bool true,.bool true] 4 .exact) (by omega)
 have e2':=(Sx.Ext.refl 0 h4).new (.cells [.bool true,.bool true] 4 .exact) (by omega)
 have hw:BsAt (h4.new (.cells [.bool true,.bool true] 4 .exact)) (.sl h4.nx 0 2 2 1 true) [true,true]:=⟨.inr ⟨h4.nx,0,2,true,[.bool true,.bool true],4,.exact,rfl,Nat.le_refl _,Sx.Az _ (by omega),trivial,by show h4.nx<h4.nx+1;omega,by simp,rfl⟩⟩
 have hg5:(h4.new (.cells [.bool true,.bool true] 4 .exact)).m.get h.nx=.cells (Bq x) 32 .exact:=by rw [e2'.old _ (by omega)];exact hg1
 refine Sx.gets_bind0 (h108 (hb1.ext e2') (by simp) hw e2 (by show h4.nx+1+3<=Bh;omega) hsz (by simp)) fun r h29 e3 hpop=>?_
 obtain ⟨⟨hlo29,hkeep⟩,hpop⟩:=hpop
 have hg29:h29.m.get h.nx=.cells (Bq x) 32 .exact:=by rw [hkeep _ (by show h.nx<h4.nx+1;omega) (by omega)];exact hg5
 have hhi:=e3.hi
 rcases hpop with ⟨v,rfl,hle,heq,htr,hbl⟩|⟨v,rfl,hno2⟩
 . have hlen:(st.drop (st.length - [true,true].length)).length=2:=by rw [List.length_drop];simp at hle ⊢;omega
   obtain ⟨a,b,ha⟩:∃ a b,st.drop (st.length - [true,true].length)=[a,b]:=len2 hlen
   have hpopS:Gc st [true,true]=some (st.take (st.length - [true,true].length),[a,b]):=by unfold Gc;rw [if_pos ⟨hle,heq⟩,ha]
   rw [hpopS]
   rw [ha] at htr
   obtain ⟨b0,o0,cs0,ee0,k0,p10,p20,p30,p40,p50⟩:=at_elem htr (i:=0) (x:=a) rfl
   have p60:∀ h1,E3 1 v (.int .i64 0) h1=.ok (.ptr b0 o0) h1:=p10
   have p70:∀ hh,rdO (.cells cs0 ee0 k0) hh=some cs0:=fun hh=>Sx.C4 p30
   obtain ⟨b1,o1,cs1,ee1,k1,p11,p21,p31,p41,p51⟩:=at_elem htr (i:=1) (x:=b) rfl
   have p61:∀ h1,E3 1 v (.int .i64 1) h1=.ok (.ptr b1 o1) h1:=p11
   have p71:∀ hh,rdO (.cells cs1 ee1 k1) hh=some cs1:=fun hh=>Sx.C4 p31
   obtain ⟨sv,q1,q2⟩:=hbl.at'
   repeat' (first|with_reducible (first|apply xa1|apply xa2|apply xa3|apply xa4)|(with_reducible (first|apply xb1|apply xb2|apply xb3);(conv=>lhs;simp (disch:=first|exact Ch|fail) [lc,hg29,q1,p60,p20,p70,p50,p61,p21,p71,p51,Bq]);with_reducible (first|apply xa1|apply xa2|apply xa3|apply xa4|(refine xa6 (by simp) ?_))))
   refine push_seq (h:=h29) (t:=.two x.op a b) hbl q1 e3.Ab (by omega) (by rw [List.length_take];omega) fun sv2 h2 f1 f2 f3=>?_
   refine Sx.gets_drEnd ?_ ?_
   . refine effOk_all _ fun e he=>?_
     simp only [List.mem_cons,List.not_mem_nil,or_false] at he
     rcases he with rfl|rfl|rfl|rfl|rfl|rfl|rfl|rfl|rfl|rfl|rfl|rfl|rfl|rfl|rfl|rfl|rfl|rfl|rfl|rfl
     all_goals first|exact .inl rfl|exact .inr (by simp (disch:=decide) only [Sx.Ek,Sx.E4,Sx.Fv,Sx.Br,Sx.B4,Bool.and_self])
   . refine Sx.Bs (f1.Ap _ fun z hz=>?_) (by omega) ⟨rfl,f3.Ap _⟩
     simp only [Sx.A8,Sx.Bk,List.mem_append,List.not_mem_nil,false_or] at hz
     repeat' (rcases hz with hz|hz)
     all_goals first|exact (nomem (Cc _ _ _ hz)).elim|exact .inr (f2 z (Cc _ _ _ hz))|exact .inr (put1 hb.p1 (Cc _ _ _ hz))|exact e3.lg z hz
 . have hpopS:Gc st [true,true]=none:=by unfold Gc;rw [if_neg hno2]
   rw [hpopS]
   repeat' (first|with_reducible (first|apply xa1|apply xa2|apply xa3|apply xa4)|(with_reducible (first|apply xb1|apply xb2|apply xb3);(conv=>lhs;simp (disch:=first|exact Ch|fail) [lc]);with_reducible (first|apply xa1|apply xa2|apply xa3|apply xa4|(refine xa6 (by simp) ?_))))
   exact Sx.Bs e3 (by omega) rfl
theorem n63two (h108:H108 ctx) {h0 h:H} {bp m:Nat} {st:List Tr} {x:Nd} (hx:¬ x.op<=3/\x.op≠7/\x.op≠17/\x.op≠8/\x.op≠15/\x.op≠16) (hb:Eo h0.nx h bp st) (he:Sx.Ext m h0 h) (hl:h0.nx+m+20<=Bh) (hsz:st.length<=40000):
 Sx.B3 (m+10) h0 (Added h0.nx bp (addS st x)) (An Tryz.prog ctx N false 63 [.ptr bp 0,.agg (Bq x)] h):=by
 have hp2:=hb.p2
 have hhi0:=he.hi
 have hlo0:=he.lo
 have hadd:addS st x=(match Gc st [decide (x.op=15)||decide (x.op=16),decide (x.op=15)||decide (x.op=16)] with|some (r,[a,b])=>some (r++[.two x.op a b])|_=>none):=by unfold addS;rw [if_neg (by omega),if_neg (by omega),if_neg (by omega)];rfl
 rw [hadd,e63]
 have e1:=he.new (.cells (Bq x) 32 .exact) (by omega)
 have hb1:=hb.ext ((Sx.Ext.refl 0 h).new (.cells (Bq x) 32 .exact) (by omega))
 have hg1:(h.new (.cells (Bq x) 32 .exact)).m.get h.nx=.cells (Bq x) 32 .exact:=Sx.Az _ (by omega)
 have hn1:(h.new (.cells (Bq x) 32 .exact)).nx=h.nx+1:=rfl
 refine Sx.Ag (Sx.xBox_agg ..) ?_
 generalize h.new (.cells (Bq x) 32 .exact)=h4 at *
 have hd:(decide (x.op=15)||decide (x.op=16))=false:=by simp [hx.1,hx.2.1,hx.2.2.1,hx.2.2.2.1,hx.2.2.2.2.1,hx.2.2.2.2.2]
 repeat' (first|with_reducible (first|apply xa1|apply xa2|apply xa3|apply xa4)|(with_reducible (first|apply xb1|apply xb2|apply xb3);(conv=>lhs;simp (disch:=first|exact Ch|fail) [lc,hg1,Bq,hx.1,hx.2.1,hx.2.2.1,hx.2.2.2.1,hx.2.2.2.2.1,hx.2.2.2.2.2]);with_reducible (first|apply xa1|apply xa2|apply xa3|apply xa4|(refine xa6 (by simp) ?_))))
 rw [hd]
 have e2:=e1.new (.cells [.bool false,.bool false] 4 .exact) (by omega)
 have e2':=(Sx.Ext.refl 0 h4).new (.cells [.bool false,.bool false] 4 .exact) (by omega)
 have hw:BsAt (h4.new (.cells [.bool false,.bool false] 4 .exact)) (.sl h4.nx 0 2 2 1 true) [false,false]:=⟨.inr ⟨h4.nx,0,2,true,[.bool false,.bool false],4,.exact,rfl,Nat.le_refl _,Sx.Az _ (by omega),trivial,by show h4.nx<h4.nx+1;omega,by simp,rfl⟩⟩
 have hg5:(h4.new (.cells [.bool false,.bool false] 4 .exact)).m.get h.nx=.cells (Bq x) 32 .exact:=by rw [e2'.old _ (by omega)];exact hg1
 refine Sx.gets_bind0 (h108 (hb1.ext e2') (by simp) hw e2 (by show h4.nx+1+3<=Bh;omega) hsz (by simp)) fun r h29 e3 hpop=>?_
 obtain ⟨⟨hlo29,hkeep⟩,hpop⟩:=hpop
 have hg29:h29.m.get h.nx=.cells (Bq x) 32 .exact:=by rw [hkeep _ (by show h.nx<h4.nx+1;omega) (by omega)];exact hg5
 have hhi:=e3.hi
 rcases hpop with ⟨v,rfl,hle,heq,htr,hbl⟩|⟨v,rfl,hno2⟩
 . have hlen:(st.drop (st.length - [false,false].length)).length=2:=by rw [List.length_drop];simp at hle ⊢;omega
   obtain ⟨a,b,ha⟩:∃ a b,st.drop (st.length - [false,false].length)=[a,b]:=len2 hlen
   have hpopS:Gc st [false,false]=some (st.take (st.length - [false,false].length),[a,b]):=by unfold Gc;rw [if_pos ⟨hle,heq⟩,ha]
   rw [hpopS]
   rw [ha] at htr
   obtain ⟨b0,o0,cs0,ee0,k0,p10,p20,p30,p40,p50⟩:=at_elem htr (i:=0) (x:=a) rfl
   have p60:∀ h1,E3 1 v (.int .i64 0) h1=.ok (.ptr b0 o0) h1:=p10
   have p70:∀ hh,rdO (.cells cs0 ee0 k0) hh=some cs0:=fun hh=>Sx.C4 p30
   obtain ⟨b1,o1,cs1,ee1,k1,p11,p21,p31,p41,p51⟩:=at_elem htr (i:=1) (x:=b) rfl
   have p61:∀ h1,E3 1 v (.int .i64 1) h1=.ok (.ptr b1 o1) h1:=p11
   have p71:∀ hh,rdO (.cells cs1 ee1 k1) hh=some cs1:=fun hh=>Sx.C4 p31
   obtain ⟨sv,q1,q2⟩:=hbl.at'
   repeat' (first|with_reducible (first|apply xa1|apply xa2|apply xa3|apply xa4)|(with_reducible (first|apply xb1|apply xb2|apply xb3);(conv=>lhs;simp (disch:=first|exact Ch|fail) [lc,hg29,q1,p60,p20,p70,p50,p61,p21,p71,p51,Bq]);with_reducible (first|apply xa1|apply xa2|apply xa3|apply xa4|(refine xa6 (by simp) ?_))))
   refine push_seq (h:=h29) (t:=.two x.op a b) hbl q1 e3.Ab (by omega) (by rw [List.length_take];omega) fun sv2 h2 f1 f2 f3=>?_
   refine Sx.gets_drEnd ?_ ?_
   . refine effOk_all _ fun e he=>?_
     simp only [List.mem_cons,List.not_mem_nil,or_false] at he
     rcases he with rfl|rfl|rfl|rfl|rfl|rfl|rfl|rfl|rfl|rfl|rfl|rfl|rfl|rfl|rfl|rfl|rfl|rfl|rfl|rfl
     all_goals first|exact .inl rfl|exact .inr (by simp (disch:=decide) only [Sx.Ek,Sx.E4,Sx.Fv,Sx.Br,Sx.B4,Bool.and_self])
   . refine Sx.Bs (f1.Ap _ fun z hz=>?_) (by omega) ⟨rfl,f3.Ap _⟩
     simp only [Sx.A8,Sx.Bk,List.mem_append,List.not_mem_nil,false_or] at hz
     repeat' (rcases hz with hz|hz)
     all_goals first|exact (nomem (Cc _ _ _ hz)).elim|exact .inr (f2 z (Cc _ _ _ hz))|exact .inr (put1 hb.p1 (Cc _ _ _ hz))|exact e3.lg z hz
 . have hpopS:Gc st [false,false]=none:=by unfold Gc;rw [if_neg hno2]
   rw [hpopS]
   repeat' (first|with_reducible (first|apply xa1|apply xa2|apply xa3|apply xa4)|(with_reducible (first|apply xb1|apply xb2|apply xb3);(conv=>lhs;simp (disch:=first|exact Ch|fail) [lc]);with_reducible (first|apply xa1|apply xa2|apply xa3|apply xa4|(refine xa6 (by simp) ?_))))
   exact Sx.Bs e3 (by omega) rfl
theorem n63 (h108:H108 ctx) {h0 h:H} {bp m:Nat} {st:List Tr} {x:Nd} (hb:Eo h0.nx h bp st) (he:Sx.Ext m h0 h) (hl:h0.nx+m+20<=Bh) (hsz:st.length<=40000):
 Sx.B3 (m+10) h0 (Added h0.nx bp (addS st x)) (An Tryz.prog ctx N false 63 [.ptr bp 0,.agg (Bq x)] h):=by
 by_cases h1:x.op<=3
 . exact n63leaf ctx N h1 hb he hl hsz
 by_cases h2:x.op=7
 . exact n63neg ctx N h108 h2 hb he hl hsz
 by_cases h3:x.op=17
 . exact n63not ctx N h108 h3 hb he hl hsz
 by_cases h4:x.op=8
 . exact n63if ctx N h108 h4 hb he hl hsz
 by_cases h5:x.op=15
 . exact n63and ctx N h108 h5 hb he hl hsz
 by_cases h6:x.op=16
 . exact n63or ctx N h108 h6 hb he hl hsz
 exact n63two ctx N h108 ⟨h1,h2,h3,h4,h5,h6⟩ hb he hl hsz
end Go.Proofs
namespace Go.Proofs
open Go Go.Ev Go.Nm
attribute [local irreducible] Aa Aj Ah Ac
variable [Lim]
variable (ctx:Ae) (N:Nat)
def opAt (l:List Nd) (j:Nat):Int:=match l[j]? with|some y=>y.op|none=>0
def bad1 (x:Nd):Bool:=decide (x.op<1)||decide (17<x.op)||(!decide (x.n=0)&&!decide (x.op=1))||(!decide (x.col=[])&&!decide (x.op=2)&&!decide (x.op=3))
def Fg (l:List Nd) (i:Nat) (x:Nd):Bool:=decide (x.op=3)&&(decide (i=0)||!decide (opAt l (i - 1)=2)||decide (l.length<=i+1)||(!decide (opAt l (i+1)=9)&&!decide (opAt l (i+1)=10)))
def Dy (l:List Nd):List Tr->Nat->List Nd->Option (List Tr)
 |st,_,[]=>some st
 |st,i,x::rest=>if bad1 x||Fg l i x then none else match addS st x with|some st'=>Dy l st' (i+1) rest|none=>none
def E7 (l:List Nd) (c:Bool):Option Tr:=match Dy l [] 0 l with|some [t]=>if Gl t=c then some t else none|_=>none
abbrev H63:Prop:=∀ {h0 h:H} {bp m:Nat} {st:List Tr} {x:Nd},Eo h0.nx h bp st->Sx.Ext m h0 h->h0.nx+m+20<=Bh->st.length<=40000->Sx.B3 (m+10) h0 (Added h0.nx bp (addS st x)) (ctx.call 63 [.ptr bp 0,.agg (Bq x)] h)
theorem nd_at {h:H} {v:AV} {l:List Nd} (hv:NdAt h v l) {j:Nat} {y:Nd} (hj:l[j]?=some y):
 ∃ b o cs e k,(∀ h1,E3 3 v (.int .i64 (j:Int)) h1=.ok (.ptr b o) h1)/\h.m.get b=.cells cs e k/\(∀ hh,rdO (.cells cs e k) hh=some cs)/\b<h.nx/\cs[o]?=some (.int .i64 y.op)/\o+3<=cs.length/\(cs.drop o).take 3=Bq y:=by
 have hjl:=(List.getElem?_eq_some_iff.1 hj).1
 obtain ⟨b,o,cs,e,k,p1,p2,p3,p4,p5,p6⟩:=hv.ia hjl
 have hl:l=l.take j++y::l.drop (j+1):=by
  have:=List.getElem?_eq_some_iff.1 hj
  obtain ⟨h1,h2⟩:=this
  rw [<- h2,<- List.drop_eq_getElem_cons h1,List.take_append_drop]
 have h7:=flat_at l (l.take j) y (l.drop (j+1)) hl
 rw [List.length_take,Nat.min_eq_left (by omega)] at h7
 rw [h7] at p6
 refine ⟨b,o,cs,e,k,p1,p2,fun hh=>Sx.C4 p3,p4,?_,p5,p6⟩
 have h8:=congrArg (fun q=>q[0]?) p6
 simpa [List.getElem?_take,List.getElem?_drop] using h8
def Built (o:Option Tr) (v:AV) (h:H):Prop:=v=repO o
theorem addS_len {st st':List Tr} {x:Nd} (h:addS st x=some st'):st'.length<=st.length+1:=by
 have hp:∀ (ts:List Bool) (r q:List Tr),Gc st ts=some (r,q)->r.length<=st.length:=by
  intro ts r q hq
  unfold Gc at hq
  split at hq
  . cases hq;simp [List.length_take]
  . cases hq
 unfold addS at h
 split at h
 . cases h;simp
 . split at h
   . split at h
     . rename_i r a hq;cases h;have:=hp _ _ _ hq;simp;omega
     . cases h
   . split at h
     . split at h
       . rename_i r c a b hq;cases h;have:=hp _ _ _ hq;simp;omega
       . cases h
     . split at h
       . rename_i r a b hq;cases h;have:=hp _ _ _ hq;simp;omega
       . cases h
theorem loop28 (h63:H63 ctx) (h64:H64 ctx) (c:Bool) (l:List Nd) (hlen:l.length<=3000) {h0:H} {v:AV} {bp M:Nat} (hv:NdAt h0 v l) (hroom:h0.nx+M<=Bh):
 ∀ (rest pre:List Nd) (st:List Tr) (h:H) (m:Nat) (f0:L2) (n1:Nat),l=pre++rest->rest.length+1<=n1->Sx.Ext m h0 h->m+20 * rest.length+20<=M->Eo h0.nx h bp st->st.length<=pre.length ->
  Sx.B3 M h0 (Built (match Dy l st pre.length rest with|some [t]=>if Gl t=c then some t else none|_=>none)) (L28x1 ctx N n1 v (.bool c) (.ptr bp 0) v (.int .i64 (l.length:Int)) (.int .i64 (pre.length:Int)) f0 h):=by
 intro rest
 induction rest with
 |nil=>
  intro pre st h m f0 n1 hpre hn he hm hb hst
  obtain ⟨n2,rfl⟩:∃ n2,n1=n2+1:=⟨n1 - 1,by omega⟩
  have hpl:pre.length=l.length:=by rw [hpre];simp
  obtain ⟨sv,q1,q2⟩:=hb.at'
  rw [L28x1s]
  refine Sx.Ag (Sx.Fa ..) ?_
  rw [show decide ((pre.length:Int)<(l.length:Int))=false by simp [hpl],Sx.Dg]
  have hsl:∀ h1:H,Ft sv h1=.ok (.int .i64 (st.length:Int)) h1:=by
   intro h1
   rcases q2 with ⟨rfl,rfl⟩|⟨b,cap,c,k,n',rfl,_⟩<;>rfl
  by_cases h1:st.length=1
  . obtain ⟨t,rfl⟩:∃ t,st=[t]:=List.length_eq_one_iff.1 h1
    rcases q2 with ⟨h5,_⟩|⟨b,cap,cs,k,n',rfl,r2,r3,r4,r5,r6,r7,r8⟩
    . simp at h5
    . have hc0:cs[0]?=some (Ax t):=by
       have h9:=congrArg (fun q=>q[0]?) r7
       simpa [List.getElem?_take] using h9
      have hia:∀ hh,E3 1 (.sl b 0 [t].length cap 1 false) (.int .i64 ((0:Nat):Int)) hh=.ok (.ptr b (0+0 * 1)) hh:=fun hh=>Sx.xIA_sl 1 b 0 1 cap 1 false 0 (by omega)
      have hia':∀ hh,E3 1 (.sl b 0 1 cap 1 false) (.int .i64 0) hh=.ok (.ptr b 0) hh:=hia
      have hln:∀ hh,Ft (.sl b 0 1 cap 1 false) hh=.ok (.int .i64 1) hh:=fun hh=>rfl
      have hld:Ad (some none) (.ptr b 0) h=.ok (Ax t) h:=Sx.Da r2 trivial hc0
      have h64':=h64 t
      have hnb:∀ (x:Bool) hh,Al Tryz.prog .neq 4 false (.bool x) (.bool c) hh=.ok (.bool (true != (x == c))) hh:=fun x hh=>Sx.neq_bool tk4 ..
      refine Sx.Ag (Sx.xNil_ptr ..) ?_
      refine Sx.Ag (Sx.Cz ..) ?_
      refine Sx.Ag (Sx.Da q1 trivial rfl) ?_
      refine Sx.Ag (hln _) ?_
      refine Sx.Ag (v:=.bool false) (h:=h) (by rw [Sx.xBin_neq];rfl) ?_
      refine Sx.Ag (v:=.ptr bp 0) (h:=h) (Sx.wantX_ff ..) ?_
      refine Sx.Ag (v:=.ptr bp 0) (h:=h) (by rw [Sx.wantX_ff];exact Sx.xNil_ptr ..) ?_
      refine Sx.Ag (v:=.ptr bp 0) (h:=h) (by rw [Sx.wantX_ff];exact Sx.Cz ..) ?_
      refine Sx.Ag (v:=.sl b 0 1 cap 1 false) (h:=h) (by rw [Sx.wantX_ff];exact Sx.Da q1 trivial rfl) ?_
      refine Sx.Ag (v:=.ptr b 0) (h:=h) (by rw [Sx.wantX_ff];exact hia' h) ?_
      refine Sx.Ag (v:=Ax t) (h:=h) (by rw [Sx.wantX_ff];exact hld) ?_
      refine Sx.Ag (v:=.bool (decide (9<=t.op))) (h:=h) (by rw [Sx.wantX_ff];exact h64' h) ?_
      refine Sx.Ag (v:=.bool c) (h:=h) (Sx.wantX_ff ..) ?_
      refine Sx.Ag (v:=.bool (true != (decide (9<=t.op) == c))) (h:=h) (by rw [Sx.wantX_ff];exact hnb _ h) ?_
      refine Sx.Ag (v:=.bool (true != (decide (9<=t.op) == c))) (h:=h) rfl ?_
      by_cases htc:Gl t=c
      . rw [show (true != (decide (9<=t.op) == c))=false by rw [<- htc];simp [Gl],Sx.Dg]
        refine Sx.Ag (Sx.xNil_ptr ..) ?_
        refine Sx.Ag (Sx.Cz ..) ?_
        refine Sx.Ag (Sx.Da q1 trivial rfl) ?_
        refine Sx.Ag (hia' h) ?_
        refine Sx.Ag hld ?_
        refine Sx.Bs he (by omega) ?_
        simp [Built,Dy,htc,Dv]
      . rw [show (true != (decide (9<=t.op) == c))=true by
         have:(decide (9<=t.op) == c)=false:=by simpa [Gl] using htc
         rw [this];rfl,Sx.Ef]
        refine Sx.Bs he (by omega) ?_
        simp [Built,Dy,htc,Dv]
  . have hd:(!decide ((st.length:Int)=1))=true:=by simp;omega
    have hbl:(match Dy l st pre.length [] with|some [t]=>if Gl t=c then some t else none|_=>none)=none:=by
     simp only [Dy]
     match st,h1 with
     |[],_=>rfl
     |[t],hh=>simp at hh
     |t::t2::st',_=>rfl
    rw [hbl]
    refine Sx.Ag (Sx.xNil_ptr ..) ?_
    refine Sx.Ag (Sx.Cz ..) ?_
    refine Sx.Ag (Sx.Da q1 trivial rfl) ?_
    refine Sx.Ag (hsl _) ?_
    refine Sx.Ag (v:=.bool true) (h:=h) (by rw [Sx.xBin_neq,hd]) ?_
    repeat' (first|with_reducible (first|apply xa1|apply xa2|apply xa3|apply xa4)|(with_reducible (first|apply xb1|apply xb2|apply xb3);(conv=>lhs;simp (disch:=first|exact Ch|fail) [lc]);with_reducible (first|apply xa1|apply xa2|apply xa3|apply xa4|(refine xa6 (by simp) ?_))))
    exact Sx.Bs he (by omega) rfl
 |cons x rest ih=>
  intro pre st h m f0 n1 hpre hn he hm hb hst
  obtain ⟨n2,rfl⟩:∃ n2,n1=n2+1:=⟨n1 - 1,by omega⟩
  have hll:l.length=pre.length+(rest.length+1):=by rw [hpre];simp
  simp only [List.length_cons] at hm hn
  have hhi:=he.hi
  have hlo:=he.lo
  have hx:l[pre.length]?=some x:=by rw [hpre];simp
  obtain ⟨b,o,cs,e,k,p1,p2,p3,p4,p5,p6,p7⟩:=nd_at (hv.ext he) hx
  rw [L28x1s]
  refine Sx.Ag (Sx.Fa ..) ?_
  rw [show decide ((pre.length:Int)<(l.length:Int))=true by simp [hll];omega,Sx.Ef]
  refine Sx.Ag (p1 h) ?_
  refine Sx.Ag (v:=.agg (Bq x)) (h:=h) (by rw [Sx.xLoad_ptr,p2,p3,Sx.ldC_some,Sx.ldL_many,E1,if_pos p6,p7];rfl) ?_
  refine Sx.Ag (Sx.mk_ok ..) ?_
  refine Sx.Ag (v:=.Bl []) (h:=(h.new (.cells [.int .i64 0,.int .i64 0,.str []] 32 .exact)).put h.nx (.cells (Bq x) 32 .exact)) (by simp (disch:=first|omega|(simp only [Sx.new_nx];omega)) [lput_eq,Bq]) ?_
  have e1:=ext_new2 he (.cells [.int .i64 0,.int .i64 0,.str []] 32 .exact) (.cells (Bq x) 32 .exact) (by omega)
  have e1':=ext_new2 (Sx.Ext.refl 0 h) (.cells [.int .i64 0,.int .i64 0,.str []] 32 .exact) (.cells (Bq x) 32 .exact) (by omega)
  have g1:((h.new (.cells [.int .i64 0,.int .i64 0,.str []] 32 .exact)).put h.nx (.cells (Bq x) 32 .exact)).m.get h.nx=.cells (Bq x) 32 .exact:=Sx.Dp _ _ (by omega)
  have hx1:((h.new (.cells [.int .i64 0,.int .i64 0,.str []] 32 .exact)).put h.nx (.cells (Bq x) 32 .exact)).nx=h.nx+1:=rfl
  have hv1:=hv.ext e1
  have hb1:=hb.ext e1'
  generalize ((h.new (.cells [.int .i64 0,.int .i64 0,.str []] 32 .exact)).put h.nx (.cells (Bq x) 32 .exact))=h5 at *
  repeat' (first|with_reducible apply Sx.Fo|with_reducible apply Sx.Gf|with_reducible apply Sx.Ge|(with_reducible apply Sx.gisR;(conv=>arg 4;arg 1;simp (disch:=first|exact Ch|fail) [lc,Sx.Ca,Sx.Bt,Sx.Bu,Sx.Bv,Sx.Bw,Sx.Cl,Sx.B9,g1,Bq]);with_reducible apply Sx.Fo)|(with_reducible apply Sx.gets_wantG;· intro hc;first|((try simp only [Bool.not_or,Bool.not_and,Bool.not_not] at hc);(conv=>lhs;simp (disch:=first|exact Ch|fail) [hc,lc,Sx.Ca,Sx.Bt,Sx.Bu,Sx.Bv,Sx.Bw,Sx.Cl,Sx.B9,g1,Bq]);try exact rfl;done)|((try simp only [Bool.and_eq_true,Bool.or_eq_false_iff,Bool.or_eq_true,Bool.and_eq_false_imp,Bool.not_eq_true',Bool.not_eq_false',decide_eq_true_eq,decide_eq_false_iff_not] at hc);(conv=>lhs;simp (disch:=first|exact Ch|fail) [hc,lc,Sx.Ca,Sx.Bt,Sx.Bu,Sx.Bv,Sx.Bw,Sx.Cl,Sx.B9,g1,Bq]);try exact rfl;done))|(with_reducible apply Sx.gisR;(conv=>arg 4;arg 1;simp only [Sx.Bt,Sx.Bu,Sx.Bv,Sx.Bw]);with_reducible apply Sx.gets_wantG;· intro hc;first|((try simp only [Bool.not_or,Bool.not_and,Bool.not_not] at hc);(conv=>lhs;simp (disch:=first|exact Ch|fail) [hc,lc,Sx.Ca,Sx.Bt,Sx.Bu,Sx.Bv,Sx.Bw,Sx.Cl,Sx.B9,g1,Bq]);try exact rfl;done)|((try simp only [Bool.and_eq_true,Bool.or_eq_false_iff,Bool.or_eq_true,Bool.and_eq_false_imp,Bool.not_eq_true',Bool.not_eq_false',decide_eq_true_eq,decide_eq_false_iff_not] at hc);(conv=>lhs;simp (disch:=first|exact Ch|fail) [hc,lc,Sx.Ca,Sx.Bt,Sx.Bu,Sx.Bv,Sx.Bw,Sx.Cl,Sx.B9,g1,Bq]);try exact rfl;done))|(with_reducible apply Sx.gisC;(conv=>arg 4;arg 1;simp (disch:=first|exact Ch|fail) [lc,Sx.Ca,Sx.Bt,Sx.Bu,Sx.Bv,Sx.Bw,Sx.Cl,Sx.B9,g1,Bq]);first|with_reducible apply Sx.Gf|with_reducible apply Sx.Ge))
  refine Sx.gets_cond (fun hc=>?_) (fun hc=>?_)
  . have hb1':bad1 x=true:=hc
    refine Sx.Bs e1 (by omega) ?_
    simp [Built,Dy,hb1',Dv]
  . have hb1':bad1 x=false:=hc
    have hfin:∀ (hb2:Fg l pre.length x=false) (K:AV->H->OR),(∀ (h6:H) (m6:Nat) (st':List Tr),addS st x=some st'->Sx.Ext m6 h0 h6->m6=m+1+10->Eo h0.nx h6 bp st'->Sx.B3 M h0 (Built (match Dy l st' (pre.length+1) rest with|some [t]=>if Gl t=c then some t else none|_=>none)) (K (.bool true) h6)) ->
     (∀ (h6:H),Sx.Ext (m+1+10) h0 h6->Sx.B3 M h0 (Built none) (K (.bool false) h6)) ->
     Sx.B3 M h0 (Built (match Dy l st pre.length (x::rest) with|some [t]=>if Gl t=c then some t else none|_=>none)) (Aa (ctx.call 63 [.ptr bp 0,.agg (Bq x)] h5) K):=by
     intro hb2 K hK1 hK2
     refine Sx.gets_bind0 (h63 hb1 e1 (by omega) (by omega)) fun r h6 e6 hadd=>?_
     cases hs:addS st x with
     |none=>
      rw [hs] at hadd
      have hr:r=.bool false:=hadd
      subst hr
      have:=hK2 h6 e6
      simpa [Dy,hb1',hb2,hs] using this
     |some st'=>
      rw [hs] at hadd
      obtain ⟨hr,hbl⟩:r=.bool true/\Eo h0.nx h6 bp st':=hadd
      subst hr
      have:=hK1 h6 _ st' hs e6 rfl hbl
      simpa [Dy,hb1',hb2,hs] using this
    by_cases h3:x.op=3
    . have hll2:=hv1.len (h1:=h5)
      have hnd:[AV.int .i64 3,.int .i64 x.n,.str x.col]=Bq x:=by simp [Bq,h3]
      have hlen1:∀ hh,Ft v hh=.ok (.int .i64 (l.length:Int)) hh:=fun hh=>hv1.len
      have hwa:Ga .i64 ((pre.length:Int)+1)=(pre.length:Int)+1:=by rw [Sx.Cg]<;>omega
      have hbad:Fg l pre.length x=true->Sx.B3 M h0 (Built (match Dy l st pre.length (x::rest) with|some [t]=>if Gl t=c then some t else none|_=>none)) (.ok (.Bl [.Bx,.bool false]) h5):=fun hb2=>Sx.Bs e1 (by omega) (by simp [Built,Dy,hb2,Dv])
      rcases Nat.eq_zero_or_pos pre.length with hp0|hp0
      . have hd0:decide (pre=[])=true:=by simpa using hp0
        repeat' (first|with_reducible (first|apply xa1|apply xa2|apply xa3|apply xa4)|(with_reducible (first|apply xb1|apply xb2|apply xb3);(conv=>lhs;simp (disch:=first|exact Ch|fail) [lc,g1,Bq,h3,hd0]);with_reducible (first|apply xa1|apply xa2|apply xa3|apply xa4|(refine xa6 (by simp) ?_))))
        exact hbad (by simp [Fg,h3,hp0])
      . have hd0:decide (pre=[])=false:=decide_eq_false (fun hh=>by rw [hh] at hp0;simp at hp0)
        have hws:Ga .i64 ((pre.length:Int) - 1)=((pre.length - 1:Nat):Int):=by rw [Sx.Cg]<;>omega
        obtain ⟨y,hy⟩:∃ y,l[pre.length - 1]?=some y:=⟨l[pre.length - 1]'(by omega),List.getElem?_eq_getElem (by omega)⟩
        have hya:opAt l (pre.length - 1)=y.op:=by unfold opAt;rw [hy]
        obtain ⟨yb,yo,ycs,ye,yk,y1,y2,y3,y4,y5,-,-⟩:=nd_at hv1 hy
        by_cases hy2:y.op=2
        . by_cases hrest:l.length<=pre.length+1
          . have hd1:decide ((l.length:Int)<=(pre.length:Int)+1)=true:=by simp;omega
            repeat' (first|with_reducible (first|apply xa1|apply xa2|apply xa3|apply xa4)|(with_reducible (first|apply xb1|apply xb2|apply xb3);(conv=>lhs;simp (disch:=first|exact Ch|fail) [lc,g1,Bq,h3,hd0,hws,y1,y2,y3,y5,hy2,hwa,hlen1,hd1]);with_reducible (first|apply xa1|apply xa2|apply xa3|apply xa4|(refine xa6 (by simp) ?_))))
            exact hbad (by simp [Fg,h3,hya,hy2,hrest])
          . have hd1:decide ((l.length:Int)<=(pre.length:Int)+1)=false:=by simp;omega
            obtain ⟨z,hz⟩:∃ z,l[pre.length+1]?=some z:=⟨l[pre.length+1]'(by omega),List.getElem?_eq_getElem (by omega)⟩
            have hza:opAt l (pre.length+1)=z.op:=by unfold opAt;rw [hz]
            obtain ⟨zb,zo,zcs,ze,zk,z1,z2,z3,z4,z5,-,-⟩:=nd_at hv1 hz
            have z1':∀ hh,E3 3 v (.int .i64 ((pre.length:Int)+1)) hh=.ok (.ptr zb zo) hh:=fun hh=>by simpa using z1 hh
            by_cases hz9:z.op=9
            . have hb2:Fg l pre.length x=false:=by simp [Fg,h3,hya,hy2,hza,hz9,hrest,List.ne_nil_of_length_pos hp0]
              repeat' (first|with_reducible (first|apply xa1|apply xa2|apply xa3|apply xa4)|(with_reducible (first|apply xb1|apply xb2|apply xb3);(conv=>lhs;simp (disch:=first|exact Ch|fail) [lc,g1,Bq,h3,hd0,hws,y1,y2,y3,y5,hy2,hwa,hlen1,hd1,z1',z2,z3,z5,hz9]);with_reducible (first|apply xa1|apply xa2|apply xa3|apply xa4|(refine xa6 (by simp) ?_))))
              rw [hnd]
              refine hfin hb2 _ (fun h6 m6 st' hs e6 hm6 hbl=>?_) (fun h6 e6=>?_)
              . repeat' (first|with_reducible (first|apply xa1|apply xa2|apply xa3|apply xa4)|(with_reducible (first|apply xb1|apply xb2|apply xb3);(conv=>lhs;simp (disch:=first|exact Ch|fail) [lc]);with_reducible (first|apply xa1|apply xa2|apply xa3|apply xa4|(refine xa6 (by simp) ?_))))
                subst hm6
                have hi:=fun f=>ih (pre++[x]) st' h6 (m+1+10) f n2 (by rw [hpre];simp) (by omega) e6 (by omega) hbl (by have:=addS_len hs;simp;omega)
                have hcast:((pre++[x]).length:Int)=(pre.length:Int)+1:=by simp
                simp only [hcast,List.length_append,List.length_cons,List.length_nil,Nat.zero_add] at hi
                rw [Sx.Cg _ (by omega) (by omega)]
                exact hi _
              . repeat' (first|with_reducible (first|apply xa1|apply xa2|apply xa3|apply xa4)|(with_reducible (first|apply xb1|apply xb2|apply xb3);(conv=>lhs;simp (disch:=first|exact Ch|fail) [lc]);with_reducible (first|apply xa1|apply xa2|apply xa3|apply xa4|(refine xa6 (by simp) ?_))))
                exact Sx.Bs e6 (by omega) rfl
            . by_cases hz10:z.op=10
              . have hb2:Fg l pre.length x=false:=by simp [Fg,h3,hya,hy2,hza,hz10,hrest,List.ne_nil_of_length_pos hp0]
                repeat' (first|with_reducible (first|apply xa1|apply xa2|apply xa3|apply xa4)|(with_reducible (first|apply xb1|apply xb2|apply xb3);(conv=>lhs;simp (disch:=first|exact Ch|fail) [lc,g1,Bq,h3,hd0,hws,y1,y2,y3,y5,hy2,hwa,hlen1,hd1,z1',z2,z3,z5,hz10]);with_reducible (first|apply xa1|apply xa2|apply xa3|apply xa4|(refine xa6 (by simp) ?_))))
                rw [hnd]
                refine hfin hb2 _ (fun h6 m6 st' hs e6 hm6 hbl=>?_) (fun h6 e6=>?_)
                . repeat' (first|with_reducible (first|apply xa1|apply xa2|apply xa3|apply xa4)|(with_reducible (first|apply xb1|apply xb2|apply xb3);(conv=>lhs;simp (disch:=first|exact Ch|fail) [lc]);with_reducible (first|apply xa1|apply xa2|apply xa3|apply xa4|(refine xa6 (by simp) ?_))))
                  subst hm6
                  have hi:=fun f=>ih (pre++[x]) st' h6 (m+1+10) f n2 (by rw [hpre];simp) (by omega) e6 (by omega) hbl (by have:=addS_len hs;simp;omega)
                  have hcast:((pre++[x]).length:Int)=(pre.length:Int)+1:=by simp
                  simp only [hcast,List.length_append,List.length_cons,List.length_nil,Nat.zero_add] at hi
                  rw [Sx.Cg _ (by omega) (by omega)]
                  exact hi _
                . repeat' (first|with_reducible (first|apply xa1|apply xa2|apply xa3|apply xa4)|(with_reducible (first|apply xb1|apply xb2|apply xb3);(conv=>lhs;simp (disch:=first|exact Ch|fail) [lc]);with_reducible (first|apply xa1|apply xa2|apply xa3|apply xa4|(refine xa6 (by simp) ?_))))
                  exact Sx.Bs e6 (by omega) rfl
              . repeat' (first|with_reducible (first|apply xa1|apply xa2|apply xa3|apply xa4)|(with_reducible (first|apply xb1|apply xb2|apply xb3);(conv=>lhs;simp (disch:=first|exact Ch|fail) [lc,g1,Bq,h3,hd0,hws,y1,y2,y3,y5,hy2,hwa,hlen1,hd1,z1',z2,z3,z5,hz9,hz10]);with_reducible (first|apply xa1|apply xa2|apply xa3|apply xa4|(refine xa6 (by simp) ?_))))
                exact hbad (by simp [Fg,h3,hya,hy2,hza,hz9,hz10])
        . repeat' (first|with_reducible (first|apply xa1|apply xa2|apply xa3|apply xa4)|(with_reducible (first|apply xb1|apply xb2|apply xb3);(conv=>lhs;simp (disch:=first|exact Ch|fail) [lc,g1,Bq,h3,hd0,hws,y1,y2,y3,y5,hy2]);with_reducible (first|apply xa1|apply xa2|apply xa3|apply xa4|(refine xa6 (by simp) ?_))))
          exact hbad (by simp [Fg,h3,hya,hy2])
    . have hb2:Fg l pre.length x=false:=by simp [Fg,h3]
      repeat' (first|with_reducible apply Sx.Fo|with_reducible apply Sx.Gf|with_reducible apply Sx.Ge|(with_reducible apply Sx.gisR;(conv=>arg 4;arg 1;simp (disch:=first|exact Ch|fail) [lc,Sx.Ca,Sx.Bt,Sx.Bu,Sx.Bv,Sx.Bw,Sx.Cl,Sx.B9,g1,Bq,h3]);with_reducible apply Sx.Fo)|(with_reducible apply Sx.gets_wantG;· intro hc;first|((try simp only [Bool.not_or,Bool.not_and,Bool.not_not] at hc);(conv=>lhs;simp (disch:=first|exact Ch|fail) [hc,lc,Sx.Ca,Sx.Bt,Sx.Bu,Sx.Bv,Sx.Bw,Sx.Cl,Sx.B9,g1,Bq,h3]);try exact rfl;done)|((try simp only [Bool.and_eq_true,Bool.or_eq_false_iff,Bool.or_eq_true,Bool.and_eq_false_imp,Bool.not_eq_true',Bool.not_eq_false',decide_eq_true_eq,decide_eq_false_iff_not] at hc);(conv=>lhs;simp (disch:=first|exact Ch|fail) [hc,lc,Sx.Ca,Sx.Bt,Sx.Bu,Sx.Bv,Sx.Bw,Sx.Cl,Sx.B9,g1,Bq,h3]);try exact rfl;done))|(with_reducible apply Sx.gisR;(conv=>arg 4;arg 1;simp only [Sx.Bt,Sx.Bu,Sx.Bv,Sx.Bw]);with_reducible apply Sx.gets_wantG;· intro hc;first|((try simp only [Bool.not_or,Bool.not_and,Bool.not_not] at hc);(conv=>lhs;simp (disch:=first|exact Ch|fail) [hc,lc,Sx.Ca,Sx.Bt,Sx.Bu,Sx.Bv,Sx.Bw,Sx.Cl,Sx.B9,g1,Bq,h3]);try exact rfl;done)|((try simp only [Bool.and_eq_true,Bool.or_eq_false_iff,Bool.or_eq_true,Bool.and_eq_false_imp,Bool.not_eq_true',Bool.not_eq_false',decide_eq_true_eq,decide_eq_false_iff_not] at hc);(conv=>lhs;simp (disch:=first|exact Ch|fail) [hc,lc,Sx.Ca,Sx.Bt,Sx.Bu,Sx.Bv,Sx.Bw,Sx.Cl,Sx.B9,g1,Bq,h3]);try exact rfl;done))|(with_reducible apply Sx.gisC;(conv=>arg 4;arg 1;simp (disch:=first|exact Ch|fail) [lc,Sx.Ca,Sx.Bt,Sx.Bu,Sx.Bv,Sx.Bw,Sx.Cl,Sx.B9,g1,Bq,h3]);first|with_reducible apply Sx.Gf|with_reducible apply Sx.Ge))
      refine hfin hb2 _ (fun h6 m6 st' hs e6 hm6 hbl=>?_) (fun h6 e6=>?_)
      . repeat' (first|with_reducible apply Sx.Fo|with_reducible apply Sx.Gf|with_reducible apply Sx.Ge|(with_reducible apply Sx.gisR;(conv=>arg 4;arg 1;simp (disch:=first|exact Ch|fail) [lc,Sx.Ca,Sx.Bt,Sx.Bu,Sx.Bv,Sx.Bw,Sx.Cl,Sx.B9]);with_reducible apply Sx.Fo)|(with_reducible apply Sx.gets_wantG;· intro hc;first|((try simp only [Bool.not_or,Bool.not_and,Bool.not_not] at hc);(conv=>lhs;simp (disch:=first|exact Ch|fail) [hc,lc,Sx.Ca,Sx.Bt,Sx.Bu,Sx.Bv,Sx.Bw,Sx.Cl,Sx.B9]);try exact rfl;done)|((try simp only [Bool.and_eq_true,Bool.or_eq_false_iff,Bool.or_eq_true,Bool.and_eq_false_imp,Bool.not_eq_true',Bool.not_eq_false',decide_eq_true_eq,decide_eq_false_iff_not] at hc);(conv=>lhs;simp (disch:=first|exact Ch|fail) [hc,lc,Sx.Ca,Sx.Bt,Sx.Bu,Sx.Bv,Sx.Bw,Sx.Cl,Sx.B9]);try exact rfl;done))|(with_reducible apply Sx.gisR;(conv=>arg 4;arg 1;simp only [Sx.Bt,Sx.Bu,Sx.Bv,Sx.Bw]);with_reducible apply Sx.gets_wantG;· intro hc;first|((try simp only [Bool.not_or,Bool.not_and,Bool.not_not] at hc);(conv=>lhs;simp (disch:=first|exact Ch|fail) [hc,lc,Sx.Ca,Sx.Bt,Sx.Bu,Sx.Bv,Sx.Bw,Sx.Cl,Sx.B9]);try exact rfl;done)|((try simp only [Bool.and_eq_true,Bool.or_eq_false_iff,Bool.or_eq_true,Bool.and_eq_false_imp,Bool.not_eq_true',Bool.not_eq_false',decide_eq_true_eq,decide_eq_false_iff_not] at hc);(conv=>lhs;simp (disch:=first|exact Ch|fail) [hc,lc,Sx.Ca,Sx.Bt,Sx.Bu,Sx.Bv,Sx.Bw,Sx.Cl,Sx.B9]);try exact rfl;done))|(with_reducible apply Sx.gisC;(conv=>arg 4;arg 1;simp (disch:=first|exact Ch|fail) [lc,Sx.Ca,Sx.Bt,Sx.Bu,Sx.Bv,Sx.Bw,Sx.Cl,Sx.B9]);first|with_reducible apply Sx.Gf|with_reducible apply Sx.Ge))
        subst hm6
        have hi:=fun f=>ih (pre++[x]) st' h6 (m+1+10) f n2 (by rw [hpre];simp) (by omega) e6 (by omega) hbl (by have:=addS_len hs;simp;omega)
        have hcast:((pre++[x]).length:Int)=(pre.length:Int)+1:=by simp
        simp only [hcast,List.length_append,List.length_cons,List.length_nil,Nat.zero_add] at hi
        rw [Sx.Cg _ (by omega) (by omega)]
        exact hi _
      . repeat' (first|with_reducible apply Sx.Fo|with_reducible apply Sx.Gf|with_reducible apply Sx.Ge|(with_reducible apply Sx.gisR;(conv=>arg 4;arg 1;simp (disch:=first|exact Ch|fail) [lc,Sx.Ca,Sx.Bt,Sx.Bu,Sx.Bv,Sx.Bw,Sx.Cl,Sx.B9]);with_reducible apply Sx.Fo)|(with_reducible apply Sx.gets_wantG;· intro hc;first|((try simp only [Bool.not_or,Bool.not_and,Bool.not_not] at hc);(conv=>lhs;simp (disch:=first|exact Ch|fail) [hc,lc,Sx.Ca,Sx.Bt,Sx.Bu,Sx.Bv,Sx.Bw,Sx.Cl,Sx.B9]);try exact rfl;done)|((try simp only [Bool.and_eq_true,Bool.or_eq_false_iff,Bool.or_eq_true,Bool.and_eq_false_imp,Bool.not_eq_true',Bool.not_eq_false',decide_eq_true_eq,decide_eq_false_iff_not] at hc);(conv=>lhs;simp (disch:=first|exact Ch|fail) [hc,lc,Sx.Ca,Sx.Bt,Sx.Bu,Sx.Bv,Sx.Bw,Sx.Cl,Sx.B9]);try exact rfl;done))|(with_reducible apply Sx.gisR;(conv=>arg 4;arg 1;simp only [Sx.Bt,Sx.Bu,Sx.Bv,Sx.Bw]);with_reducible apply Sx.gets_wantG;· intro hc;first|((try simp only [Bool.not_or,Bool.not_and,Bool.not_not] at hc);(conv=>lhs;simp (disch:=first|exact Ch|fail) [hc,lc,Sx.Ca,Sx.Bt,Sx.Bu,Sx.Bv,Sx.Bw,Sx.Cl,Sx.B9]);try exact rfl;done)|((try simp only [Bool.and_eq_true,Bool.or_eq_false_iff,Bool.or_eq_true,Bool.and_eq_false_imp,Bool.not_eq_true',Bool.not_eq_false',decide_eq_true_eq,decide_eq_false_iff_not] at hc);(conv=>lhs;simp (disch:=first|exact Ch|fail) [hc,lc,Sx.Ca,Sx.Bt,Sx.Bu,Sx.Bv,Sx.Bw,Sx.Cl,Sx.B9]);try exact rfl;done))|(with_reducible apply Sx.gisC;(conv=>arg 4;arg 1;simp (disch:=first|exact Ch|fail) [lc,Sx.Ca,Sx.Bt,Sx.Bu,Sx.Bv,Sx.Bw,Sx.Cl,Sx.B9]);first|with_reducible apply Sx.Gf|with_reducible apply Sx.Ge))
        exact Sx.Bs e6 (by omega) rfl
theorem n28 (h63:H63 ctx) (h64:H64 ctx) (c:Bool) (l:List Nd) (hlen:l.length<=3000) (hN:l.length+1<=N) {h:H} {v:AV} (hv:NdAt h v l) (hroom:h.nx+(20 * l.length+30)<=Bh):
 Sx.B3 (20 * l.length+30) h (fun v _=>v=repO (E7 l c)) (An Tryz.prog ctx N true 28 [v,.bool c] h):=by
 rw [e28]
 refine Sx.Ag (Sx.xBox_agg ..) ?_
 have e1:=(Sx.Ext.refl 0 h).new (.cells [.Cb] 105 .exact) (by omega)
 refine Sx.Ag hv.len ?_
 have hb:Eo h.nx (h.new (.cells [.Cb] 105 .exact)) h.nx []:=⟨Nat.le_refl _,by show h.nx<h.nx+1;omega,.Cb,Sx.Az _ (by omega),.inl ⟨rfl,rfl⟩⟩
 exact loop28 ctx N h63 h64 c l hlen hv hroom l [] [] _ 1 _ N rfl hN e1 (by omega) hb (Nat.le_refl _)
end Go.Proofs
