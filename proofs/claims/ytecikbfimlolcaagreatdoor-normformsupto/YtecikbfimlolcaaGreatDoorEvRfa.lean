/- The reference's walks: a list of nodes read as an expression: the plain part. The reference's walks: a list of nodes read as an expression. -/
import Derived.Test.YtecikbfimlolcaaGreatDoorEvRf
import Derived.Test.YtecikbfimlolcaaGreatDoorEvQb
set_option maxRecDepth 100000
set_option linter.unusedSimpArgs false
set_option linter.unusedVariables false
namespace Go.Proofs
open Go Go.Ev Go.Nm
def ty (t:Tr):Nat:=if Gl t then 116 else 110
def mkT (x:Nd):List Tr->Tr
 |[a]=>.one x.op a
 |[a,b]=>.two x.op a b
 |[c,a,b]=>.three c a b
 |_=>.leaf x
theorem bad1_op {x:Nd} (h:bad1 x=false):1<=x.op/\x.op<=17/\(x.op≠1->x.n=0)/\(x.op≠2->x.op≠3->x.col=[]):=by
 simp only [bad1,Bool.or_eq_false_iff,decide_eq_false_iff_not,Bool.and_eq_false_imp,Bool.not_eq_true',Bool.not_eq_false',decide_eq_true_eq,decide_eq_false_iff_not] at h
 obtain ⟨⟨⟨h1,h2⟩,h3⟩,h4⟩:=h
 refine ⟨by omega,by omega,fun hh=>?_,fun h5 h6=>?_⟩
 . by_cases hn:x.n=0
   . exact hn
   . have:=h3 hn;omega
 . by_cases hn:x.col=[]
   . exact hn
   . exfalso
     simp [hn,h5,h6] at h4
theorem addS_tin {st:List Tr} {x:Nd} (h1:1<=x.op) (h2:x.op<=17):addS st x=if (Es x.op).length<=st.length/\(st.drop (st.length - (Es x.op).length)).map ty=Es x.op then some (st.take (st.length - (Es x.op).length)++[mkT x (st.drop (st.length - (Es x.op).length))]) else none:=by
 have hpop:∀ (ts:List Bool) (l:List Nat),l=ts.map (fun b=>if b then 116 else 110)->∀ q:List Tr,q.map Gl=ts ↔ q.map ty=l:=by
  intro ts l hl q
  subst hl
  constructor
  . intro hq;rw [<- hq];simp [ty]
  . intro hq
    have h3:q.map (fun t=>if Gl t then 116 else 110)=ts.map (fun b=>if b then 116 else 110):=hq
    clear hq
    induction q generalizing ts with
    |nil=>cases ts with|nil=>rfl|cons a ts=>simp at h3
    |cons t q ih=>
     cases ts with
     |nil=>simp at h3
     |cons a ts=>
      simp only [List.map_cons,List.cons.injEq] at h3 ⊢
      refine ⟨?_,ih ts h3.2⟩
      cases ht:Gl t<;>cases a<;>simp [ht] at h3 ⊢
 have hgo:∀ (ts:List Bool),Es x.op=ts.map (fun b=>if b then 116 else 110)->∀ (f:List Tr->List Tr->Option (List Tr)),(match Gc st ts with|some (r,q)=>f r q|none=>none) =
  if (Es x.op).length<=st.length/\(st.drop (st.length - (Es x.op).length)).map ty=Es x.op then f (st.take (st.length - (Es x.op).length)) (st.drop (st.length - (Es x.op).length)) else none:=by
  intro ts hts f
  have hl:(Es x.op).length=ts.length:=by rw [hts];simp
  unfold Gc
  rw [hl]
  by_cases hc:ts.length<=st.length/\(st.drop (st.length - ts.length)).map Gl=ts
  . rw [if_pos hc,if_pos ⟨hc.1,(hpop ts _ hts _).1 hc.2⟩]
  . rw [if_neg hc,if_neg (fun hh=>hc ⟨hh.1,(hpop ts _ hts _).2 hh.2⟩)]
 have hlen:∀ k,k<=st.length->(st.drop (st.length - k)).length=k:=fun k hk=>by rw [List.length_drop];omega
 by_cases c1:x.op<=3
 . have ht:Es x.op=[]:=by unfold Es;rw [if_pos (by omega)]
   unfold addS
   rw [if_pos c1,ht]
   simp [mkT]
 by_cases c2:x.op=7\/x.op=17
 . have ht:Es x.op=[decide (x.op=17)].map (fun b=>if b then 116 else 110):=by
    rcases c2 with c2|c2<;>rw [c2]<;>rfl
   have hg:=hgo [decide (x.op=17)] ht (fun r q=>match q with|[a]=>some (r++[.one x.op a])|_=>none)
   unfold addS
   rw [if_neg c1,if_pos c2]
   have hl1:(Es x.op).length=1:=by rw [ht];rfl
   refine Eq.trans ?_ (hg.trans ?_)
   . cases Gc st [decide (x.op=17)] with
     |none=>rfl
     |some p=>obtain ⟨r,q⟩:=p;cases q with|nil=>rfl|cons a q=>cases q<;>rfl
   . by_cases hc:(Es x.op).length<=st.length/\(st.drop (st.length - (Es x.op).length)).map ty=Es x.op
     . rw [if_pos hc,if_pos hc]
       obtain ⟨a,ha⟩:=List.length_eq_one_iff.1 ((hlen _ hc.1).trans hl1)
       rw [ha]
       rfl
     . rw [if_neg hc,if_neg hc]
 by_cases c3:x.op=8
 . have ht:Es x.op=[true,false,false].map (fun b=>if b then 116 else 110):=by rw [c3];rfl
   have hg:=hgo [true,false,false] ht (fun r q=>match q with|[c,a,b]=>some (r++[.three c a b])|_=>none)
   unfold addS
   rw [if_neg c1,if_neg c2,if_pos c3]
   have hl1:(Es x.op).length=3:=by rw [ht];rfl
   refine Eq.trans ?_ (hg.trans ?_)
   . cases Gc st [true,false,false] with
     |none=>rfl
     |some p=>obtain ⟨r,q⟩:=p;match q with|[]=>rfl|[_]=>rfl|[_,_]=>rfl|[_,_,_]=>rfl|_::_::_::_::_=>rfl
   . by_cases hc:(Es x.op).length<=st.length/\(st.drop (st.length - (Es x.op).length)).map ty=Es x.op
     . rw [if_pos hc,if_pos hc]
       have h9:=(hlen _ hc.1).trans hl1
       match hq:st.drop (st.length - (Es x.op).length),h9 with
       |[c,a,b],_=>rfl
     . rw [if_neg hc,if_neg hc]
 . have ht:Es x.op=[decide (x.op=15)||decide (x.op=16),decide (x.op=15)||decide (x.op=16)].map (fun b=>if b then 116 else 110):=by
    by_cases c4:x.op=15\/x.op=16
    . rcases c4 with c4|c4<;>rw [c4]<;>rfl
    . have e1:¬ x.op=15:=by omega
      have e2:¬ x.op=16:=by omega
      unfold Es
      rw [if_neg (by omega)]
      by_cases c5:x.op=4\/x.op=5\/x.op=6
      . rw [if_pos c5];simp [e1,e2]
      . rw [if_neg c5,if_neg (by omega),if_neg (by omega),if_neg (by omega),if_neg (by omega)];simp [e1,e2]
   have hg:=hgo _ ht (fun r q=>match q with|[a,b]=>some (r++[.two x.op a b])|_=>none)
   unfold addS
   rw [if_neg c1,if_neg c2,if_neg c3]
   have hl1:(Es x.op).length=2:=by rw [ht];rfl
   refine Eq.trans ?_ (hg.trans ?_)
   . cases Gc st [decide (x.op=15)||decide (x.op=16),decide (x.op=15)||decide (x.op=16)] with
     |none=>rfl
     |some p=>obtain ⟨r,q⟩:=p;match q with|[]=>rfl|[_]=>rfl|[_,_]=>rfl|_::_::_::_=>rfl
   . by_cases hc:(Es x.op).length<=st.length/\(st.drop (st.length - (Es x.op).length)).map ty=Es x.op
     . rw [if_pos hc,if_pos hc]
       have h9:=(hlen _ hc.1).trans hl1
       match hq:st.drop (st.length - (Es x.op).length),h9 with
       |[a,b],_=>rfl
     . rw [if_neg hc,if_neg hc]
theorem TV_mk {h:H} {x:Nd} {v:AV} {qs:List (Tr × AV)} (hb:bad1 x=false) (hl:qs.length=(Es x.op).length) (hs:Sx.Sl 4 h v qs.length (qs.flatMap rcp)) (ht:∀ p∈qs,TV h p.1 p.2):TV h (mkT x (qs.map (·.1))) v/\hd (mkT x (qs.map (·.1)))=x:=by
 obtain ⟨h1,h2,h3,h4⟩:=bad1_op hb
 have hx:∀ o,x.op=o->o≠1->o≠2->o≠3->(⟨o,0,[]⟩:Nd)=x:=fun o ho a b c=>by
  obtain ⟨xo,xn,xc⟩:=x
  simp only at ho h3 h4
  subst ho
  rw [h3 a,h4 b c]
 have hcase:((Es x.op).length=0/\x.op<=3)\/((Es x.op).length=1/\(x.op=7\/x.op=17))\/((Es x.op).length=3/\x.op=8)\/((Es x.op).length=2/\(4<=x.op/\x.op<=16/\x.op≠7/\x.op≠8)):=by
  unfold Es
  split
  . exact .inl ⟨rfl,by omega⟩
  split
  . exact .inr (.inr (.inr ⟨rfl,by omega⟩))
  split
  . exact .inr (.inl ⟨rfl,by omega⟩)
  split
  . exact .inr (.inr (.inl ⟨rfl,by omega⟩))
  split
  . exact .inr (.inr (.inr ⟨rfl,by omega⟩))
  split
  . exact .inr (.inl ⟨rfl,by omega⟩)
  . exact .inr (.inr (.inr ⟨rfl,by omega⟩))
 rcases hcase with ⟨e1,e2⟩|⟨e1,e2⟩|⟨e1,e2⟩|⟨e1,e2⟩
 . rw [e1] at hl
   have hq:qs=[]:=List.length_eq_zero_iff.1 hl
   subst hq
   exact ⟨⟨hs,h1,e2⟩,rfl⟩
 . rw [e1] at hl
   obtain ⟨⟨a,w⟩,rfl⟩:=List.length_eq_one_iff.1 hl
   have ta:=ht (a,w) (by simp)
   exact ⟨⟨⟨w,by simpa using hs,ta.rv⟩,e2,ta.reg⟩,hx _ rfl (by omega) (by omega) (by omega)⟩
 . rw [e1] at hl
   match qs,hl with
   |[(c,w0),(a,w1),(b,w2)],_=>
    have tc:=ht (c,w0) (by simp)
    have ta:=ht (a,w1) (by simp)
    have tb:=ht (b,w2) (by simp)
    exact ⟨⟨⟨w0,w1,w2,by simpa using hs,tc.rv,ta.rv,tb.rv⟩,tc.reg,ta.reg,tb.reg⟩,hx 8 e2 (by omega) (by omega) (by omega)⟩
 . rw [e1] at hl
   match qs,hl with
   |[(a,w1),(b,w2)],_=>
    have ta:=ht (a,w1) (by simp)
    have tb:=ht (b,w2) (by simp)
    exact ⟨⟨⟨w1,w2,by simpa using hs,ta.rv,tb.rv⟩,e2,ta.reg,tb.reg⟩,hx _ rfl (by omega) (by omega) (by omega)⟩
theorem tout_ty {x:Nd} (h1:1<=x.op) (h2:x.op<=17):tout x.op=[if 9<=x.op then 116 else 110]:=by
 unfold tout
 by_cases hc:9<=x.op
 . rw [if_neg (by omega),if_pos hc]
 . rw [if_pos (by omega),if_neg hc]
theorem hd_ty (t:Tr):ty t=if 9<=(hd t).op then 116 else 110:=by
 unfold ty Gl
 simp only [decide_eq_true_eq]
 cases t<;>rfl
end Go.Proofs
namespace Go.Proofs
open Go Go.Ev Go.Nm
attribute [local irreducible] Aa Aj Ah Ac
variable (ctx:Ae) (N:Nat)
theorem xi65:Gn Tryz.prog 65=.sl ⟨67,4,56⟩:=by kernel_rfl
theorem xi9:Gn Tryz.prog 9=.str:=by kernel_rfl
theorem drop_rcp (ps:List (Tr × AV)) (k:Nat):(ps.flatMap rcp).drop (k * 4)=(ps.drop k).flatMap rcp:=by
 induction ps generalizing k with
 |nil=>simp
 |cons p ps ih=>
  cases k with
  |zero=>simp
  |succ k=>
   rw [List.flatMap_cons,List.drop_succ_cons,<- ih k,Nat.add_mul,Nat.one_mul,Nat.add_comm,<- List.drop_drop,List.drop_left' (rcp4 p)]
theorem take_rcp (ps:List (Tr × AV)) (k:Nat):(ps.flatMap rcp).take (k * 4)=(ps.take k).flatMap rcp:=by
 induction ps generalizing k with
 |nil=>simp
 |cons p ps ih=>
  cases k with
  |zero=>simp
  |succ k=>
   rw [List.flatMap_cons,List.take_succ_cons,List.flatMap_cons,<- ih k,Nat.add_mul,Nat.one_mul,Nat.add_comm]
   have h4:(rcp p).length=4:=rfl
   rw [List.take_append,List.take_of_length_le (by omega),h4,Nat.add_sub_cancel_left]
theorem len_rcp (ps:List (Tr × AV)):(ps.flatMap rcp).length=ps.length * 4:=Sx.flatMap_len rcp4 ps
def Read (o:Option Tr) (v:AV) (h:H):Prop:=(o=none/\v=.Bl [.agg [.int .i64 0,.int .i64 0,.str [],.Cb],.bool false])\/∃ t w,o=some t/\v=.Bl [.agg (rc t w),.bool true]/\TV h t w
def kindL (c:Bool):List Nat:=[if c then 116 else 110]
theorem tin_len (op:Int):(Es op).length<=3:=by
 unfold Es
 split
 . simp
 split
 . simp
 split
 . simp
 split
 . simp
 split
 . simp
 split
 . simp
 . simp
theorem buildL_some {l:List Nd} {st st':List Tr} {i:Nat} {x:Nd} {rest:List Nd} (h1:bad1 x=false) (h2:Fg l i x=false) (hs:addS st x=some st'):Dy l st i (x::rest)=Dy l st' (i+1) rest:=by simp [Dy,h1,h2,hs]
theorem buildL_none {l:List Nd} {st:List Tr} {i:Nat} {x:Nd} {rest:List Nd} (h1:bad1 x=false) (h2:Fg l i x=false) (hs:addS st x=none):Dy l st i (x::rest)=none:=by simp [Dy,h1,h2,hs]
abbrev tys (ps:List (Tr × AV)):List Nat:=(ps.map (·.1)).map ty
theorem fail70a (h119:R119 ctx) (h120:R120 ctx) (c:Bool) (l:List Nd) (hl:l.length<=3000) {h0 h:H} {v t7:AV} {x:Nd} {i n2 m:Nat} {S:List Nat} (f0:L2) (hv:NdS h0 v l) (hx:l[i]?=some x) (hbad:(!bad1 x&&!Fg l i x)=false) (hpl:m<=3000) (he:Sx.Ai h0 h) (hlo:h0.nx<h.nx) (hg:h.m.get h0.nx=.cells [.int .i64 0,.int .i64 0,.str [],.Cb] 67 .exact) (hpsl:∀ hh,Ft t7 hh=.ok (.int .i64 (m:Int)) hh):
 Sx.Af h0 (Read none) (L70x1 ctx N (n2+1) v (.str (kindL c)) (.ptr h0.nx 0) (.str S) t7 (.int .i64 (i:Int)) f0 h):=by
 have htl:=tin_len x.op
 have hil:=(List.getElem?_eq_some_iff.1 hx).1
 have hil':(i:Int)<(l.length:Int):=by omega
 have hlen:∀ hh,Ft v hh=.ok (.int .i64 (l.length:Int)) hh:=fun _=>hv.lenL
 obtain ⟨b,p,p1,p2,p3,-,-⟩:=nd_get hv hx
 rw [L70x1s]
 repeat' (first|with_reducible (first|apply A3|apply A4|apply A5|apply A6)|((with_reducible (first|apply Db|apply Dc));exact h119 _ _;intro vv hh ee elo eold qq;(try simp only [Bp] at elo eold);subst qq)|((with_reducible (first|apply Db|apply Dc));exact h120 l _ i x _ (Sx.Sl.B2 hv E5) hx hl;intro vv hh ee elo eold qq;(try simp only [Bp] at elo eold);subst qq)|(with_reducible (first|apply Cq|apply Cr|apply Cs|apply Ct);(conv=>lhs;simp (disch:=first|exact dA|fail) [lw, *,hil',hbad]);with_reducible (first|apply A3|apply A4|apply A5|apply A6|apply Cn|(refine Co (by simp) ?_)|(apply Cp<;>intro hc<;>(try simp only [Ar] at hc)<;>(try (exfalso;omega)))))|(with_reducible (first|apply ze1|apply ze2);(conv=>lhs;simp only [zw,hbad]))|(with_reducible (first|apply Cu|apply Cv|apply Cw|apply Cx)<;>intro hc<;>(try simp only [Ar] at hc)<;>(try (exfalso;omega))))
 exact Sx.Cj Ak (.inl ⟨rfl,rfl⟩)
theorem fail70b (h119:R119 ctx) (h120:R120 ctx) (c:Bool) (l:List Nd) (hl:l.length<=3000) {h0 h:H} {v t7:AV} {x:Nd} {i n2 m:Nat} {S:List Nat} (f0:L2) (hv:NdS h0 v l) (hx:l[i]?=some x) (hbad:(!bad1 x&&!Fg l i x)=true) (hpl:m<=3000) (hk:¬ (Es x.op).length<=m) (he:Sx.Ai h0 h) (hlo:h0.nx<h.nx) (hg:h.m.get h0.nx=.cells [.int .i64 0,.int .i64 0,.str [],.Cb] 67 .exact) (hpsl:∀ hh,Ft t7 hh=.ok (.int .i64 (m:Int)) hh):
 Sx.Af h0 (Read none) (L70x1 ctx N (n2+1) v (.str (kindL c)) (.ptr h0.nx 0) (.str S) t7 (.int .i64 (i:Int)) f0 h):=by
 have htl:=tin_len x.op
 have hil:=(List.getElem?_eq_some_iff.1 hx).1
 have hil':(i:Int)<(l.length:Int):=by omega
 have hlen:∀ hh,Ft v hh=.ok (.int .i64 (l.length:Int)) hh:=fun _=>hv.lenL
 obtain ⟨b,p,p1,p2,p3,-,-⟩:=nd_get hv hx
 have hkn:(m:Int) - ((Es x.op).length:Int)<0:=by omega
 rw [L70x1s]
 repeat' (first|with_reducible (first|apply A3|apply A4|apply A5|apply A6)|((with_reducible (first|apply Db|apply Dc));exact h119 _ _;intro vv hh ee elo eold qq;(try simp only [Bp] at elo eold);subst qq)|((with_reducible (first|apply Db|apply Dc));exact h120 l _ i x _ (Sx.Sl.B2 hv E5) hx hl;intro vv hh ee elo eold qq;(try simp only [Bp] at elo eold);subst qq)|(with_reducible (first|apply Cq|apply Cr|apply Cs|apply Ct);(conv=>lhs;simp (disch:=first|exact dA|fail) [lw, *,hil',hbad,hkn]);with_reducible (first|apply A3|apply A4|apply A5|apply A6|apply Cn|(refine Co (by simp) ?_)|(apply Cp<;>intro hc<;>(try simp only [Ar] at hc)<;>(try (exfalso;omega)))))|(with_reducible (first|apply ze1|apply ze2);(conv=>lhs;simp only [zw,hbad]))|(with_reducible (first|apply Cu|apply Cv|apply Cw|apply Cx)<;>intro hc<;>(try simp only [Ar] at hc)<;>(try (exfalso;omega))))
 exact Sx.Cj Ak (.inl ⟨rfl,rfl⟩)
theorem fail70c (h119:R119 ctx) (h120:R120 ctx) (c:Bool) (l:List Nd) (hl:l.length<=3000) {h0 h:H} {v t7:AV} {x:Nd} {i n2 m:Nat} {S:List Nat} (f0:L2) (hv:NdS h0 v l) (hx:l[i]?=some x) (hbad:(!bad1 x&&!Fg l i x)=true) (hpl:m<=3000) (hS:S.length=m) (hk:(Es x.op).length<=m) (hq:¬ S.drop (m - (Es x.op).length)=Es x.op) (he:Sx.Ai h0 h) (hlo:h0.nx<h.nx) (hg:h.m.get h0.nx=.cells [.int .i64 0,.int .i64 0,.str [],.Cb] 67 .exact) (hpsl:∀ hh,Ft t7 hh=.ok (.int .i64 (m:Int)) hh):
 Sx.Af h0 (Read none) (L70x1 ctx N (n2+1) v (.str (kindL c)) (.ptr h0.nx 0) (.str S) t7 (.int .i64 (i:Int)) f0 h):=by
 have htl:=tin_len x.op
 have hil:=(List.getElem?_eq_some_iff.1 hx).1
 have hil':(i:Int)<(l.length:Int):=by omega
 have hlen:∀ hh,Ft v hh=.ok (.int .i64 (l.length:Int)) hh:=fun _=>hv.lenL
 obtain ⟨b,p,p1,p2,p3,-,-⟩:=nd_get hv hx
 have hkc:((m - (Es x.op).length:Nat):Int)=(m:Int) - ((Es x.op).length:Int):=by omega
 have hkn:¬ (m:Int) - ((Es x.op).length:Int)<0:=by omega
 have hs1:∀ hh,xSl Tryz.prog 9 (.str S) (some (.int .i64 ((m:Int) - ((Es x.op).length:Int)))) none hh=.ok (.str (S.drop (m - (Es x.op).length))) hh:=fun hh=>by rw [<- hkc];exact Sx.xSl_str_lo xi9 (by omega)
 clear hkc hS
 rw [L70x1s]
 repeat' (first|with_reducible (first|apply A3|apply A4|apply A5|apply A6)|((with_reducible (first|apply Db|apply Dc));exact h119 _ _;intro vv hh ee elo eold qq;(try simp only [Bp] at elo eold);subst qq)|((with_reducible (first|apply Db|apply Dc));exact h120 l _ i x _ (Sx.Sl.B2 hv E5) hx hl;intro vv hh ee elo eold qq;(try simp only [Bp] at elo eold);subst qq)|(with_reducible (first|apply Cq|apply Cr|apply Cs|apply Ct);(conv=>lhs;simp (disch:=first|exact dA|fail) [lw, *,hil',hbad,hkn,hs1,hq]);with_reducible (first|apply A3|apply A4|apply A5|apply A6|apply Cn|(refine Co (by simp) ?_)|(apply Cp<;>intro hc<;>(try simp only [Ar] at hc)<;>(try (exfalso;omega)))))|(with_reducible (first|apply ze1|apply ze2);(conv=>lhs;simp only [zw,hbad]))|(with_reducible (first|apply Cu|apply Cv|apply Cw|apply Cx)<;>intro hc<;>(try simp only [Ar] at hc)<;>(try (exfalso;omega))))
 exact Sx.Cj Ak (.inl ⟨rfl,rfl⟩)
theorem gv_drAll {h0 hF:H} {Q:AV->H->Prop} {efs:List EF} {lg:List Nat} {k:H->OR} (gF:Sx.Ai h0 hF) (h1:∀ z∈lg,z∈h0.lg\/h0.nx<=z) (he:effOk efs=true) (h2:∀ e∈efs,e.w=[]\/∃ n,e.w=wrote n hF.lg) (hk:∀ L,Sx.Ai h0 (Ap L hF)->Sx.A9 hF (Ap L hF)->Sx.Af h0 Q (k (Ap L hF))):Sx.Af h0 Q (F4 lg efs (Ab hF) k):=by
 rw [Sx.drEnd_ok he]
 refine hk _ ⟨gF.lo,gF.old,?_⟩ ⟨Nat.le_refl _,fun b cs hc=>⟨hc.lt,hc.cells⟩⟩
 show ∀ z∈Ec efs lg,_
 clear he hk
 induction efs with
 |nil=>exact h1
 |cons e es ih=>
  intro z hz
  rw [Sx.A8] at hz
  rcases List.mem_append.1 hz with hz|hz
  . rcases h2 e (List.mem_cons_self ..) with h3|⟨n,h3⟩
    . rw [h3] at hz;cases hz
    . rw [h3] at hz
      exact gF.lg z (Cc n z _ hz)
  . exact ih (fun e he=>h2 e (List.mem_cons_of_mem _ he)) z hz
def Dl (p:Prop):Prop:=p
theorem push70 (h119:R119 ctx) (h120:R120 ctx) (c:Bool) (l:List Nd) (hl:l.length<=3000) {h0 h:H} {v t7:AV} {x:Nd} {i n2:Nat} {S:List Nat} {ps:List (Tr × AV)} {Q:AV->H->Prop} (f0:L2) (hv:NdS h0 v l) (hx:l[i]?=some x) (hb1:bad1 x=false) (hb2:Fg l i x=false) (hpl:ps.length<=3000) (hS:S.length=ps.length) (hk:(Es x.op).length<=ps.length) (hq:S.drop (ps.length - (Es x.op).length)=Es x.op) (he:Sx.Ai h0 h) (hlo:h0.nx<h.nx) (hg:h.m.get h0.nx=.cells [.int .i64 0,.int .i64 0,.str [],.Cb] 67 .exact) (hps:Sx.SlF 4 rcp h t7 ps) (htv:∀ p∈ps,TV h p.1 p.2)
 (hK:∀ (w t7':AV) (f:L2) (h':H),Sx.Ai h0 h'->h0.nx<h'.nx->h'.m.get h0.nx=.cells [.int .i64 0,.int .i64 0,.str [],.Cb] 67 .exact->Sx.SlF 4 rcp h' t7' (ps.take (ps.length - (Es x.op).length)++[(mkT x ((ps.drop (ps.length - (Es x.op).length)).map (·.1)),w)])->(∀ p∈ps,TV h' p.1 p.2)->TV h' (mkT x ((ps.drop (ps.length - (Es x.op).length)).map (·.1))) w ->
  Sx.Af h0 Q (L70x1 ctx N n2 v (.str (kindL c)) (.ptr h0.nx 0) (.str (S.take (ps.length - (Es x.op).length)++tout x.op)) t7' (.int .i64 ((i+1:Nat):Int)) f h')):
 Sx.Af h0 Q (L70x1 ctx N (n2+1) v (.str (kindL c)) (.ptr h0.nx 0) (.str S) t7 (.int .i64 (i:Int)) f0 h):=by
 have htl:=tin_len x.op
 have hil:=(List.getElem?_eq_some_iff.1 hx).1
 have hil':(i:Int)<(l.length:Int):=by omega
 have hlen:∀ hh,Ft v hh=.ok (.int .i64 (l.length:Int)) hh:=fun _=>hv.lenL
 have hpsl:∀ hh,Ft t7 hh=.ok (.int .i64 (ps.length:Int)) hh:=fun _=>hps.lenL
 obtain ⟨b,p,p1,p2,p3,-,-⟩:=nd_get hv hx
 obtain ⟨v27,r27,s27⟩:=Sx.Sl.hi (u:=ps.length - (Es x.op).length) xi65 hps (by omega)
 obtain ⟨v32,r32,s32⟩:=Sx.Sl.lo (k:=ps.length - (Es x.op).length) (by omega) xi65 hps (by omega)
 have hkc:((ps.length - (Es x.op).length:Nat):Int)=(ps.length:Int) - ((Es x.op).length:Int):=by omega
 have hkn:¬ (ps.length:Int) - ((Es x.op).length:Int)<0:=by omega
 have hs1:∀ hh,xSl Tryz.prog 9 (.str S) (some (.int .i64 ((ps.length:Int) - ((Es x.op).length:Int)))) none hh=.ok (.str (S.drop (ps.length - (Es x.op).length))) hh:=fun hh=>by rw [<- hkc];exact Sx.xSl_str_lo xi9 (by omega)
 have hs2:∀ hh,xSl Tryz.prog 9 (.str S) none (some (.int .i64 ((ps.length:Int) - ((Es x.op).length:Int)))) hh=.ok (.str (S.take (ps.length - (Es x.op).length))) hh:=fun hh=>by rw [<- hkc];exact Sx.xSl_str_hi xi9 (by omega)
 have htol:(tout x.op).length<=1:=by unfold tout;split<;>simp
 have hs3:∀ hh,Al Tryz.prog .add 9 false (.str (S.take (ps.length - (Es x.op).length))) (.str (tout x.op)) hh=.ok (.str (S.take (ps.length - (Es x.op).length)++tout x.op)) hh:=fun hh=>Sx.xBin_adds _ _ _ _ (by rw [List.length_take];omega)
 rw [hkc] at r27 r32
 generalize hkk:ps.length - (Es x.op).length=k at *
 rw [L70x1s]
 replace htv:Dl (∀ p∈ps,TV h p.1 p.2):=htv
 replace hK:=(show Dl _ from hK)
 replace s27:=(show Dl _ from s27)
 replace s32:=(show Dl _ from s32)
 replace r32:=(show Dl _ from r32)
 clear hS
 repeat' (first|with_reducible (first|apply A3|apply A4|apply A5|apply A6)|((with_reducible (first|apply Db|apply Dc));exact h119 _ _;intro vv hh ee elo eold qq;(try simp only [Bp] at elo eold);subst qq)|((with_reducible (first|apply Db|apply Dc));exact h120 l _ i x _ (Sx.Sl.B2 hv E5) hx hl;intro vv hh ee elo eold qq;(try simp only [Bp] at elo eold);subst qq)|(with_reducible (first|apply Cq|apply Cr|apply Cs|apply Ct);(conv=>lhs;simp (disch:=first|exact dA|fail) [lw, *,hil',hb1,hb2,hkn,hs1,hs2,hs3,hq,r27]);with_reducible (first|apply A3|apply A4|apply A5|apply A6|apply Cn|(refine Co (by simp) ?_)|(apply Cp<;>intro hc<;>(try simp only [Ar] at hc)<;>(try (exfalso;omega)))))|(with_reducible (first|apply ze1|apply ze2);(conv=>lhs;simp only [zw,hb1,hb2]))|(with_reducible (first|apply Cu|apply Cv|apply Cw|apply Cx)<;>intro hc<;>(try simp only [Ar] at hc)<;>(try (exfalso;omega))))
 have hpsl2:(ps.take k).length<=3000:=by rw [List.length_take];omega
 have eA:Sx.Ai hh ((Ab hh).new (.cells [] 67 .exact)):=Ak
 have gA:((Ab hh).new (.cells [] 67 .exact)).m.get hh.nx=.cells [] 67 .exact:=Sx.Eh (h:=Ab hh) _
 have nA:((Ab hh).new (.cells [] 67 .exact)).nx=hh.nx+1:=rfl
 have lA:((Ab hh).new (.cells [] 67 .exact)).lg=[]:=rfl
 generalize (Ab hh).new (.cells [] 67 .exact)=hA at *
 have hone:∀ qs:List (Tr × AV),(∀ q∈qs,q∈ps)->Bn (qs.flatMap rcp)=true:=fun qs hqs=>ps_one fun q hq=>(htv q (hqs q hq)).ob.1
 have hone1:=hone (ps.take k) fun q hq=>List.mem_of_mem_take hq
 have hone2:=hone (ps.drop k) fun q hq=>List.mem_of_mem_drop hq
 clear hone
 obtain ⟨v28,hB,rB,eB,oB⟩:=Sx.app_from_empty (h:=Ab (Ab hA)) (y:=v27) (s:=4) (len':=k) (c':=(ps.take k).flatMap rcp) (b:=hh.nx) (off:=0) (cs:=[]) (bytes:=56) (et:=67) (lo:=hh.nx) ⟨by show hh.nx<hA.nx;omega,67,.exact,gA,trivial⟩ (Nat.le_refl _) (by rw [<- take_rcp];exact s27 _ E5) (by rw [len_rcp,List.length_take];congr 1;omega) (by omega) hone1 (by show hh.nx<=hA.nx;omega)
 refine Sx.B8 rB ?_
 have qB:wrote (Ab hA).nx hB.lg=[]:=eB.quiet
 have nB:hA.nx<=hB.nx:=eB.lo
 replace oB:=(show Dl _ from oB)
 clear rB
 repeat' (first|with_reducible (first|apply A3|apply A4|apply A5|apply A6)|(with_reducible (first|apply Cq|apply Cr|apply Cs|apply Ct);(conv=>lhs;simp (disch:=first|exact dA|fail) [lw, *]);with_reducible (first|apply A3|apply A4|apply A5|apply A6|apply Cn|(refine Co (by simp) ?_)|(apply Cp<;>intro hc<;>(try simp only [Ar] at hc)<;>(try (exfalso;omega)))))|(with_reducible (first|apply Cu|apply Cv|apply Cw|apply Cx)<;>intro hc<;>(try simp only [Ar] at hc)<;>(try (exfalso;omega))))
 refine Sx.B8 (r32 _) ?_
 have eC:Sx.Ai hB ((Ab hB).new (.cells [] 67 .exact)):=Ak
 have gC:((Ab hB).new (.cells [] 67 .exact)).m.get hB.nx=.cells [] 67 .exact:=Sx.Eh (h:=Ab hB) _
 have nC:((Ab hB).new (.cells [] 67 .exact)).nx=hB.nx+1:=rfl
 have lC:((Ab hB).new (.cells [] 67 .exact)).lg=[]:=rfl
 generalize (Ab hB).new (.cells [] 67 .exact)=hC at *
 obtain ⟨v33,hD,rD,eD,oD⟩:=Sx.app_from_empty (h:=Ab (Ab hC)) (y:=v32) (s:=4) (len':=ps.length - k) (c':=(ps.drop k).flatMap rcp) (b:=hB.nx) (off:=0) (cs:=[]) (bytes:=56) (et:=67) (lo:=hB.nx) ⟨by show hB.nx<hC.nx;omega,67,.exact,gC,trivial⟩ (Nat.le_refl _) (by rw [<- drop_rcp];exact s32 _ E5) (by rw [len_rcp,List.length_drop]) (by omega) hone2 (by show hB.nx<=hC.nx;omega)
 refine Sx.B8 rD ?_
 have qD:wrote (Ab hC).nx hD.lg=[]:=eD.quiet
 have nD:hC.nx<=hD.nx:=eD.lo
 have ow:=Bc oD.sl
 obtain ⟨ow1,ow2⟩:=ow
 replace oD:=(show Dl _ from oD)
 clear rD
 repeat' (first|with_reducible (first|apply A3|apply A4|apply A5|apply A6)|(with_reducible (first|apply Cq|apply Cr|apply Cs|apply Ct);(conv=>lhs;simp (disch:=first|exact dA|fail) [lw, *]);with_reducible (first|apply A3|apply A4|apply A5|apply A6|apply Cn|(refine Co (by simp) ?_)|(apply Cp<;>intro hc<;>(try simp only [Ar] at hc)<;>(try (exfalso;omega)))))|(with_reducible (first|apply Cu|apply Cv|apply Cw|apply Cx)<;>intro hc<;>(try simp only [Ar] at hc)<;>(try (exfalso;omega))))
 have eE:Sx.Ai hD ((Ab hD).new (.cells [.int .i64 x.op,.int .i64 x.n,.str x.col,v33] 67 .exact)):=Ak
 have gE:((Ab hD).new (.cells [.int .i64 x.op,.int .i64 x.n,.str x.col,v33] 67 .exact)).m.get hD.nx=.cells [.int .i64 x.op,.int .i64 x.n,.str x.col,v33] 67 .exact:=Sx.Eh (h:=Ab hD) _
 have nE:((Ab hD).new (.cells [.int .i64 x.op,.int .i64 x.n,.str x.col,v33] 67 .exact)).nx=hD.nx+1:=rfl
 have lE:((Ab hD).new (.cells [.int .i64 x.op,.int .i64 x.n,.str x.col,v33] 67 .exact)).lg=[]:=rfl
 generalize (Ab hD).new (.cells [.int .i64 x.op,.int .i64 x.n,.str x.col,v33] 67 .exact)=hE at *
 have oB':Sx.Own 4 hh.nx 67 hB v28 k ((ps.take k).flatMap rcp):=oB
 have oD':Sx.Own 4 hB.nx 67 hD v33 (ps.length - k) ((ps.drop k).flatMap rcp):=oD
 have gBE:Sx.Ai hB (Ab hE):=Ak
 obtain ⟨v36,hF,rF,kF,fF,oF,gO⟩:=(oB'.gr gBE).app (y:=.sl hD.nx 0 1 1 4 true) (bytes:=56) (len':=1) (c':=[.int .i64 x.op,.int .i64 x.n,.str x.col,v33]) (Sx.Sl.lit (h:=hD) (h1:=Ab hE) gE nE rfl) (by omega) (by simp [ow1]) (by show hh.nx<=hE.nx;omega)
 refine Sx.B8 rF ?_
 have htm:=TV_mk (h:=hD) (x:=x) (v:=v33) (qs:=ps.drop k) hb1 (by rw [List.length_drop];omega) (by have:=oD'.sl;rwa [List.length_drop]) (fun q hq=>TV.B2 (htv q (List.mem_of_mem_drop hq)) E5)
 have kF':Sx.A9 h hF:=by
  refine Sx.A9.trans (h1:=Ab hE) ?_ kF
  exact E5
 have kD:Sx.A9 hD hF:=Sx.A9.trans (h1:=Ab hE) E5 kF
 have gh:Sx.Ai h0 hh:=Ak
 have gF:Sx.Ai h0 hF:=fF h0 (by omega) Ak
 have o1:hh.m.get h0.nx=.cells [.int .i64 0,.int .i64 0,.str [],.Cb] 67 .exact:=Ep
 have o2:hB.m.get h0.nx=hA.m.get h0.nx:=eB.old _ (show h0.nx<hA.nx by omega)
 have o3:hD.m.get h0.nx=hC.m.get h0.nx:=eD.old _ (show h0.nx<hC.nx by omega)
 have gg:hF.m.get h0.nx=.cells [.int .i64 0,.int .i64 0,.str [],.Cb] 67 .exact:=by
  rw [gO _ (by omega)]
  show hE.m.get h0.nx=_
  rw [eE.old _ (by omega),o3,eC.old _ (by omega),o2,eA.old _ (by omega),o1]
 refine gv_drAll gF gh.lg (effOk_all _ fun e he=>?_) ?_ fun L gL kL=>?_
 . simp only [List.mem_cons,List.not_mem_nil,or_false] at he
   rcases he with rfl|rfl|rfl|rfl|rfl|rfl|rfl|rfl|rfl|rfl|rfl|rfl|rfl|rfl|rfl|rfl|rfl|rfl
   all_goals first|exact .inl rfl|exact .inl (by simp only [lA,lC,lE,qB,qD];rfl)|exact .inr (by simp (disch:=decide) only [Sx.Ek,Sx.E4,Sx.Fv,Sx.Br,Sx.B4,Bool.and_self])
 . intro e he
   simp only [List.mem_cons,List.not_mem_nil,or_false] at he
   rcases he with rfl|rfl|rfl|rfl|rfl|rfl|rfl|rfl|rfl|rfl|rfl|rfl|rfl|rfl|rfl|rfl|rfl|rfl
   all_goals first|exact .inl rfl|exact .inr ⟨_,rfl⟩|exact .inl (by simp only [lA,lC,lE,qB,qD];rfl)|exact .inl (by simp only [lA,lC,lE,qB,qD])
 . have htm':=htm.1.B2 (kD.trans kL)
   have hs9:=oF.sl.B2 kL
   have htvF:∀ p∈ps,TV (Ap L hF) p.1 p.2:=fun p hp=>(htv p hp).B2 (kF'.trans kL)
   have hmx:=htm.2
   replace oF:Sx.SlF 4 rcp (Ap L hF) v36 (ps.take k++[(mkT x ((ps.drop k).map (·.1)),v33)]):=by
    unfold Sx.SlF
    have h9:(ps.take k++[(mkT x ((ps.drop k).map (·.1)),v33)]).length=k+1:=by simp;omega
    rw [h9,List.flatMap_append,List.flatMap_cons,List.flatMap_nil,List.append_nil]
    have h8:rcp (mkT x ((ps.drop k).map (·.1)),v33)=[.int .i64 x.op,.int .i64 x.n,.str x.col,v33]:=by
     show rc _ v33=_
     unfold rc
     rw [hmx]
    rw [h8]
    exact hs9
   have ix1:Al Tryz.prog .add 3 true (.int .i64 (i:Int)) (.int .i64 1) (Ap L hF)=.ok (.int .i64 ((i+1:Nat):Int)) (Ap L hF):=by
    rw [Sx.xBin_add,Sx.Cg _ (by omega) (by omega)]
    rfl
   refine Sx.B8 ix1 ?_
   exact hK v33 v36 _ _ gL (by show h0.nx<hF.nx;have:=kF'.lo;omega) gg oF htvF htm'
theorem hd_mk {x:Nd} {qs:List Tr} (hb:bad1 x=false) (hl:qs.length=(Es x.op).length):hd (mkT x qs)=x:=by
 obtain ⟨h1,h2,h3,h4⟩:=bad1_op hb
 have hx:∀ o,x.op=o->o≠1->o≠2->o≠3->(⟨o,0,[]⟩:Nd)=x:=fun o ho a b c=>by
  obtain ⟨xo,xn,xc⟩:=x
  simp only at ho h3 h4
  subst ho
  rw [h3 a,h4 b c]
 have h13:1<=(Es x.op).length->x.op≠1/\x.op≠2/\x.op≠3:=fun hh=>by
  refine ⟨?_,?_,?_⟩<;>(intro h9;rw [h9] at hh;exact absurd hh (by decide))
 have h3':(Es x.op).length=3->x.op=8:=fun hh=>by
  unfold Es at hh
  split at hh
  . cases hh
  split at hh
  . cases hh
  split at hh
  . cases hh
  split at hh
  . assumption
  split at hh
  . cases hh
  split at hh
  . cases hh
  . cases hh
 match qs with
 |[]=>rfl
 |[a]=>have h9:=h13 (by rw [<- hl];simp);exact hx _ rfl h9.1 h9.2.1 h9.2.2
 |[a,b]=>have h9:=h13 (by rw [<- hl];simp);exact hx _ rfl h9.1 h9.2.1 h9.2.2
 |[a,b,c]=>have h9:=h13 (by rw [<- hl];simp);exact hx 8 (h3' hl.symm) (by omega) (by omega) (by omega)
 |_::_::_::_::_=>rfl
theorem tys_len (ps:List (Tr × AV)):(tys ps).length=ps.length:=by simp [tys]
theorem kind_ty (t:Tr) (c:Bool):([ty t]=kindL c) ↔ Gl t=c:=by
 unfold kindL ty
 cases Gl t<;>cases c<;>simp
def OneOf (c:Bool):List Tr->Option Tr
 |[t]=>if Gl t=c then some t else none
 |_=>none
theorem end70 (c:Bool) (l:List Nd) {h0 h:H} {v t7:AV} {n2:Nat} {ps:List (Tr × AV)} (f0:L2) (hv:NdS h0 v l) (hpl:ps.length<=l.length) (hl:l.length<=3000) (he:Sx.Ai h0 h) (hlo:h0.nx<h.nx) (hg:h.m.get h0.nx=.cells [.int .i64 0,.int .i64 0,.str [],.Cb] 67 .exact) (hps:Sx.SlF 4 rcp h t7 ps) (htv:∀ p∈ps,TV h p.1 p.2):
 Sx.Af h0 (Read (OneOf c (ps.map (·.1)))) (L70x1 ctx N (n2+1) v (.str (kindL c)) (.ptr h0.nx 0) (.str (tys ps)) t7 (.int .i64 (l.length:Int)) f0 h):=by
 have hlen:∀ hh,Ft v hh=.ok (.int .i64 (l.length:Int)) hh:=fun _=>hv.lenL
 have hno:¬ (l.length:Int)<(l.length:Int):=by omega
 by_cases hk:tys ps=kindL c
 . obtain ⟨⟨t,w⟩,rfl⟩:∃ p,ps=[p]:=List.length_eq_one_iff.1 (by rw [<- tys_len,hk];rfl)
   have htc:Gl t=c:=(kind_ty t c).1 hk
   have ht:=htv (t,w) (by simp)
   obtain ⟨b,p,e⟩:=ps_el hps (i:=0) (a:=t) (w:=w) rfl
   have e1:=e.ia
   have e2:=e.all
   have hsp:OneOf c (([(t,w)]:List (Tr × AV)).map (·.1))=some t:=by simp [OneOf,htc]
   rw [hsp]
   generalize tys [(t,w)]=T at hk
   generalize kindL c=K at hk
   clear htv hps e hsp
   have e1':∀ h1,E3 4 t7 (.int .i64 0) h1=.ok (.ptr b p) h1:=e1
   clear e1
   have tp:=ht.putBox hg (l:=rc t w) rfl
   rw [L70x1s]
   obtain ⟨w1,w2⟩:=ht.ob
   repeat' (first|with_reducible (first|apply A3|apply A4|apply A5|apply A6)|(with_reducible (first|apply Cq|apply Cr|apply Cs|apply Ct);(conv=>lhs;simp (disch:=first|exact dA|fail) [lw, *,hno,hk,w1,w2,rc]);with_reducible (first|apply A3|apply A4|apply A5|apply A6|apply Cn|(refine Co (by simp) ?_)|(apply Cp<;>intro hc<;>(try simp only [Ar] at hc)<;>(try (exfalso;omega)))))|(with_reducible (first|apply Cu|apply Cv|apply Cw|apply Cx)<;>intro hc<;>(try simp only [Ar] at hc)<;>(try (exfalso;omega))))
   refine Sx.Cj ?_ (Or.inr ⟨t,w,rfl,rfl,?_⟩)
   . exact Ak
   . exact tp
 . have hsp:OneOf c (ps.map (·.1))=none:=by
    match ps,hk with
    |[],_=>rfl
    |[p],hk=>simp only [List.map_cons,List.map_nil,OneOf];rw [if_neg fun hh=>hk ((kind_ty _ _).2 hh)]
    |_::_::_,_=>rfl
   rw [hsp]
   have htl:=tys_len ps
   generalize tys ps=T at hk htl
   have hkl:(kindL c).length=1:=rfl
   generalize kindL c=K at hk hkl
   clear htv hps hsp
   rw [L70x1s]
   repeat' (first|with_reducible (first|apply A3|apply A4|apply A5|apply A6)|(with_reducible (first|apply Cq|apply Cr|apply Cs|apply Ct);(conv=>lhs;simp (disch:=first|exact dA|fail) [lw, *,hno,hk]);with_reducible (first|apply A3|apply A4|apply A5|apply A6|apply Cn|(refine Co (by simp) ?_)|(apply Cp<;>intro hc<;>(try simp only [Ar] at hc)<;>(try (exfalso;omega)))))|(with_reducible (first|apply Cu|apply Cv|apply Cw|apply Cx)<;>intro hc<;>(try simp only [Ar] at hc)<;>(try (exfalso;omega))))
   exact Sx.Cj Ak (.inl ⟨rfl,rfl⟩)
theorem loop70 (h119:R119 ctx) (h120:R120 ctx) (c:Bool) (l:List Nd) (hl:l.length<=3000) {h0:H} {v:AV} (hv:NdS h0 v l):∀ (rest:List Nd) (i n2:Nat) (ps:List (Tr × AV)) (t7:AV) (f0:L2) (h:H),(∀ j,rest[j]?=l[i+j]?)->i+rest.length=l.length->rest.length<n2->ps.length<=i->Sx.Ai h0 h->h0.nx<h.nx->h.m.get h0.nx=.cells [.int .i64 0,.int .i64 0,.str [],.Cb] 67 .exact->Sx.SlF 4 rcp h t7 ps->(∀ p∈ps,TV h p.1 p.2) ->
 Sx.Af h0 (Read (match Dy l (ps.map (·.1)) i rest with|some st=>OneOf c st|none=>none)) (L70x1 ctx N n2 v (.str (kindL c)) (.ptr h0.nx 0) (.str (tys ps)) t7 (.int .i64 (i:Int)) f0 h):=by
 intro rest
 induction rest with
 |nil=>
  intro i n2 ps t7 f0 h hr hi hn hpl he hlo hg hps htv
  obtain ⟨n,rfl⟩:∃ n,n2=n+1:=⟨n2 - 1,by simp at hn;omega⟩
  have hil:i=l.length:=by simpa using hi
  subst hil
  exact end70 ctx N c l f0 hv hpl hl he hlo hg hps htv
 |cons x rest ih=>
  intro i n2 ps t7 f0 h hr hi hn hpl he hlo hg hps htv
  obtain ⟨n,rfl⟩:∃ n,n2=n+1:=⟨n2 - 1,by simp at hn;omega⟩
  have hx:l[i]?=some x:=by rw [<- Nat.add_zero i,<- hr 0];rfl
  have hlr:i+(rest.length+1)=l.length:=hi
  cases hb:bad1 x||Fg l i x with
  |true=>
   have h1:Dy l (ps.map (·.1)) i (x::rest)=none:=by simp [Dy,hb]
   rw [h1]
   exact fail70a ctx N h119 h120 c l hl f0 hv hx (by rw [<- Bool.not_or,hb];rfl) (m:=ps.length) (by omega) he hlo hg (fun _=>hps.lenL)
  |false=>
   obtain ⟨hb1,hb2⟩:=Bool.or_eq_false_iff.1 hb
   obtain ⟨o1,o2,-,-⟩:=bad1_op hb1
   have hadd:=addS_tin (st:=ps.map (·.1)) o1 o2
   rw [List.length_map] at hadd
   have hqe:((ps.map (·.1)).drop (ps.length - (Es x.op).length)).map ty=(tys ps).drop (ps.length - (Es x.op).length):=by simp [tys,List.map_drop]
   rw [hqe] at hadd
   have hgood:(!bad1 x&&!Fg l i x)=true:=by rw [hb1,hb2];rfl
   by_cases hk:(Es x.op).length<=ps.length
   . by_cases hq:(tys ps).drop (ps.length - (Es x.op).length)=Es x.op
     . rw [if_pos ⟨hk,hq⟩,<- List.map_drop,<- List.map_take] at hadd
       rw [buildL_some hb1 hb2 hadd]
       refine push70 ctx N h119 h120 c l hl f0 hv hx hb1 hb2 (by omega) (tys_len ps) hk hq he hlo hg hps htv ?_
       intro w t7' f h' g1 g2 g3 g4 g5 g6
       have hm:=ih (i+1) n _ t7' f h' (fun j=>by
        have h9:=hr (j+1)
        rw [List.getElem?_cons_succ] at h9
        rw [h9]
        congr 1
        omega) (by omega) (by simp at hn;omega) (by simp;omega) g1 g2 g3 g4 (fun p hp=>by
        rcases List.mem_append.1 hp with hp|hp
        . exact g5 p (List.mem_of_mem_take hp)
        . rcases List.mem_singleton.1 hp with rfl
          exact g6)
       rw [List.map_append] at hm
       have ht:tys (ps.take (ps.length - (Es x.op).length)++[(mkT x ((ps.drop (ps.length - (Es x.op).length)).map (·.1)),w)])=(tys ps).take (ps.length - (Es x.op).length)++tout x.op:=by
        have h9:=hd_ty (mkT x ((ps.drop (ps.length - (Es x.op).length)).map (·.1)))
        rw [hd_mk hb1 (by simp;omega)] at h9
        rw [tout_ty o1 o2,<- h9]
        simp [tys,List.map_take]
       rw [ht] at hm
       exact hm
     . rw [if_neg fun hh=>hq hh.2] at hadd
       rw [buildL_none hb1 hb2 hadd]
       exact fail70c ctx N h119 h120 c l hl f0 hv hx hgood (by omega) (tys_len ps) hk hq he hlo hg (fun _=>hps.lenL)
   . rw [if_neg fun hh=>hk hh.1] at hadd
     rw [buildL_none hb1 hb2 hadd]
     exact fail70b ctx N h119 h120 c l hl f0 hv hx hgood (m:=ps.length) (by omega) hk he hlo hg (fun _=>hps.lenL)
theorem OneOf_build (l:List Nd) (c:Bool):(match Dy l [] 0 l with|some st=>OneOf c st|none=>none)=E7 l c:=by
 unfold E7
 cases Dy l [] 0 l with
 |none=>rfl
 |some st=>
  match st with
  |[]=>rfl
  |[t]=>rfl
  |_::_::_=>rfl
theorem r70 (h119:R119 ctx) (h120:R120 ctx) (c:Bool) (l:List Nd) (v:AV) (h:H) (hv:NdS h v l) (hl:l.length<=3000) (hN:3000<N):Sx.Af h (Read (E7 l c)) (An Tryz.prog ctx N false 70 [v,.str (kindL c)] h):=by
 rw [e70,<- OneOf_build]
 repeat' (first|with_reducible (first|apply A3|apply A4|apply A5|apply A6)|(with_reducible (first|apply Cq|apply Cr|apply Cs|apply Ct);(conv=>lhs;simp (disch:=first|exact dA|fail) [lw, *]);with_reducible (first|apply A3|apply A4|apply A5|apply A6|apply Cn|(refine Co (by simp) ?_)|(apply Cp<;>intro hc<;>(try simp only [Ar] at hc)<;>(try (exfalso;omega)))))|(with_reducible (first|apply Cu|apply Cv|apply Cw|apply Cx)<;>intro hc<;>(try simp only [Ar] at hc)<;>(try (exfalso;omega))))
 exact loop70 ctx N h119 h120 c l hl hv l 0 N [] .Cb _ _ (fun j=>by rw [Nat.zero_add]) (by simp) (by omega) (Nat.le_refl _) Ak Ch (by simp) (.inl ⟨rfl,rfl,rfl⟩) (fun p hp=>by cases hp)
end Go.Proofs
