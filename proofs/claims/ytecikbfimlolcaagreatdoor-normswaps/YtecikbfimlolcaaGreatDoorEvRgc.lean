/- Queries: norm's normal form. -/
import Derived.Test.YtecikbfimlolcaaGreatDoorEvRgb
set_option maxRecDepth 100000
set_option linter.unusedSimpArgs false
set_option linter.unusedVariables false
noncomputable section
namespace Go.Proofs
open Go Go.Ev Go.Nm
attribute [local irreducible] Aa Al Af Ad
variable (ctx:Ac) (N:Nat)
def Rn (l:List Nd):List Nd:=match Je l false with|some t=>if l.length<=200 then (normal t).nodes else l|none=>l
def Tb (l:List Nd):List Nd:=match Je l true with|some t=>if l.length<=200 then (if same (normal t) (fixed true)=true then [] else (normal t).nodes) else l|none=>l
def Oa (q:Qr):Qr:={ q with code:=Rn q.code,E9:=Tb q.E9 }
def N28:Prop:=∀(c:Bool) (l:List Nd) (v:AV) (h:H) (lo:Nat),FrN lo h v l->l.length<=3000->Sx.Ah h (λr _=>r=Yy (Je l c)) (ctx.call 28 [v,.bool c] h)
def N29:Prop:=∀(t:Tr) (h:H),Kq t->size t<=200->ctx.call 29 [A3 t] h=.ok (A3 (normal t)) h
def N31:Prop:=∀(h:H),ctx.call 31 [.bool true] h=.ok (A3 (fixed true)) h
def N30:Prop:=∀(a b:Tr) (h:H),size a<=1000->size b<=1000->ctx.call 30 [A3 a,A3 b] h=.ok (.bool (same a b)) h
def NNd:Prop:=∀(t:Tr) (h:H),size t<=1000->Sx.Ah h (λr h1=>FrN h.nx h1 r t.nodes) (Hn Tryz.prog ctx (A3 t) (mnm Tryz.prog 109 0) [] h)
abbrev zq:List AV:=[(.int .i64 0),.Bv,(.int .i64 0),(.int .i64 0),(.int .i64 0),(.int .i64 0),(.str []),(.int .i64 0),.Bv,(.int .i64 0),(.bool false),(.str []),(.int .i64 0),(.str []),(.str []),(.str []),(.int .i64 0),.Bv,(.str []),(.int .i64 0)]
set_option maxHeartbeats 2000000 in
theorem j10 (Pv:N28 ctx) (Kr:N29 ctx) (J3:N30 ctx) (N7:N31 ctx) (hnd:NNd ctx) (hbs:∀l c t,Je l c=some t->size t=l.length/\Kq t) (hns:∀t,Kq t->size (normal t)<=size t) (q:Qr) (w1 wo w3:AV) (f0:L2) {h0 h:H} (he:Sx.Ai h0 h) (Kf:h0.nx+2<=h.nx) (hg:h.m.get h0.nx=.cells (qc q w1 wo w3) 26 .exact) (hg2:h.m.get (h0.nx+1)=.cells zq 26 .exact) (qs:QS (h0.nx+2) h q w1 wo w3) (hl3:q.E9.length<=3000):
 Sx.Ah h0 (AgG h0.nx { q with E9:=Tb q.E9 }) (AkT ctx N (.ptr h0.nx 0) (.ptr (h0.nx+1) 0) f0 h):=by
 obtain ⟨s1,s2,s3⟩:=qs
 obtain ⟨p11,p12⟩:=B2 s1.sl
 obtain ⟨p21,p22⟩:=B2 s2.sl
 obtain ⟨p31,p32⟩:=B2 s3.sl
 have hlen:∀hh,Fo w3 hh=.ok (.int .i64 (q.E9.length:Int)) hh:=λ_=>s3.sl.Gs
 rw [AwG]
 repeat' (first|with_reducible (first|apply A7|apply A8|apply A9|apply Ba)|(with_reducible (first|apply Cy|apply Cz|apply C0|apply C1);(conv=>lhs;simp (disch:=first|exact dA|fail) [lw, *]);with_reducible (first|apply A7|apply A8|apply A9|apply Ba|apply Cu|(refine Cv (by simp) ?_)|apply Cx))|(with_reducible (first|apply C2|apply C3|apply C4|apply C5|apply Cw)<;>intro hc<;>(try simp only [Bt] at hc)<;>(try (exfalso;omega))))
 refine Sx.X0 (Pv true q.E9 w3 _ _ s3 hl3) λv3 h3 e3 q3=>?_
 subst q3
 have BdA:=e3.lo
 have Bbc:=e3.Cf
 cases hb:Je q.E9 true with
 |none=>
  have hs:Tb q.E9=q.E9:=by unfold Tb;rw [hb]
  rw [show Yy none=.Bj [.B3,.bool false] from rfl]
  clear hbs hns Pv Kr J3 N7 hnd
  repeat' (first|with_reducible (first|apply A7|apply A8|apply A9|apply Ba)|(with_reducible (first|apply Cy|apply Cz|apply C0|apply C1);(conv=>lhs;simp (disch:=first|exact dA|fail) [lw, *]);with_reducible (first|apply A7|apply A8|apply A9|apply Ba|apply Cu|(refine Cv (by simp) ?_)|apply Cx))|(with_reducible (first|apply Kl|apply Km);(conv=>lhs;simp only [zw,Bool.not_true]))|(with_reducible (first|apply C2|apply C3|apply C4|apply C5|apply Cw)<;>intro hc<;>(try simp only [Bt] at hc)<;>(try (exfalso;omega))))
  refine Sx.Lo ?_ ⟨w1,wo,w3,rfl,?_,?_,?_⟩
  . exact Ex
  . (exact Li)
  . (exact Li)
  . show FrN _ _ _ (Tb q.E9)
    rw [hs]
    (exact Li)
 |some t=>
  obtain ⟨b1,b2⟩:=hbs _ _ _ hb
  have b3:=hns t b2
  rw [show Yy (some t)=.Bj [A3 t,.bool true] from rfl]
  by_cases k:(q.E9.length:Int)<=200
  . have k1:=decide_eq_true k
    have Fc:size t<=200:=by omega
    have AdN:size (normal t)<=1000:=by omega
    have Aqf:∀hh,ctx.call 29 [A3 t] hh=.ok (A3 (normal t)) hh:=λhh=>Kr t hh b2 Fc
    have Ayk:∀hh,ctx.call 31 [.bool true] hh=.ok (A3 (fixed true)) hh:=N7
    have Ayj:∀hh,ctx.call 30 [A3 (normal t),A3 (fixed true)] hh=.ok (.bool (same (normal t) (fixed true))) hh:=λhh=>J3 _ _ hh AdN (by rw [Ct];omega)
    have hn1:∀hh,Sx.Ah hh (λr h1=>FrN hh.nx h1 r (normal t).nodes) (Hn Tryz.prog ctx (A3 (normal t)) (mnm Tryz.prog 109 0) [] hh):=λhh=>hnd _ hh AdN
    have hs:Tb q.E9=if same (normal t) (fixed true)=true then [] else (normal t).nodes:=by unfold Tb;rw [hb];exact if_pos (by omega)
    clear hbs hns Pv Kr J3 N7 hnd k hb b3 b1 b2
    generalize A3 t=T at *
    generalize hT':A3 (normal t)=T' at *
    generalize A3 (fixed true)=F at *
    generalize same (normal t) (fixed true)=B at *
    generalize (normal t).nodes=L at *
    repeat' (first|with_reducible (first|apply A7|apply A8|apply A9|apply Ba)|(with_reducible (first|apply Cy|apply Cz|apply C0|apply C1);(conv=>lhs;simp (disch:=first|exact dA|fail) [lw, *,k1,Aqf,Ayk,Ayj]);with_reducible (first|apply A7|apply A8|apply A9|apply Ba|apply Cu|(refine Cv (by simp) ?_)|apply Cx))|(with_reducible (first|apply Kl|apply Km);(conv=>lhs;simp only [zw,k1]))|(with_reducible (first|apply C2|apply C3|apply C4|apply C5|apply Cw)<;>intro hc<;>(try simp only [Bt] at hc)<;>(try (exfalso;omega))))
    refine Sx.X0 (hn1 _) λv12 Gd e12 AzL=>?_
    obtain ⟨p41,p42⟩:=B2 AzL.sl
    have A2U:=e12.lo
    have AxO:=e12.Cf
    clear hn1
    cases B
    . rw [if_neg (by decide)] at hs
      repeat' (first|with_reducible (first|apply A7|apply A8|apply A9|apply Ba)|(with_reducible (first|apply Cy|apply Cz|apply C0|apply C1);(conv=>lhs;simp (disch:=first|exact dA|fail) [lw, *,k1,Aqf,Ayk,Ayj]);with_reducible (first|apply A7|apply A8|apply A9|apply Ba|apply Cu|(refine Cv (by simp) ?_)|apply Cx))|(with_reducible (first|apply Kl|apply Km);(conv=>lhs;simp only [zw,k1]))|(with_reducible (first|apply C2|apply C3|apply C4|apply C5|apply Cw)<;>intro hc<;>(try simp only [Bt] at hc)<;>(try (exfalso;omega))))
      refine Sx.Lo ?_ ⟨w1,wo,v12,rfl,?_,?_,?_⟩
      . exact Ex
      . (exact Li)
      . (exact Li)
      . show FrN _ _ _ (Tb q.E9)
        rw [hs]
        (exact Li)
    . rw [if_pos rfl] at hs
      repeat' (first|with_reducible (first|apply A7|apply A8|apply A9|apply Ba)|(with_reducible (first|apply Cy|apply Cz|apply C0|apply C1);(conv=>lhs;simp (disch:=first|exact dA|fail) [lw, *,k1,Aqf,Ayk,Ayj]);with_reducible (first|apply A7|apply A8|apply A9|apply Ba|apply Cu|(refine Cv (by simp) ?_)|apply Cx))|(with_reducible (first|apply Kl|apply Km);(conv=>lhs;simp only [zw,k1]))|(with_reducible (first|apply C2|apply C3|apply C4|apply C5|apply Cw)<;>intro hc<;>(try simp only [Bt] at hc)<;>(try (exfalso;omega))))
      refine Sx.Lo ?_ ⟨w1,wo,.Bv,rfl,?_,?_,?_⟩
      . exact Ex
      . (exact Li)
      . (exact Li)
      . show FrN _ _ _ (Tb q.E9)
        rw [hs]
        exact Safe.nil rfl rfl
  . have k1:=decide_eq_false k
    have hs:Tb q.E9=q.E9:=by unfold Tb;rw [hb];exact if_neg (by omega)
    clear hbs hns Pv Kr J3 N7 hnd k hb b3 b1 b2
    generalize A3 t=T at *
    repeat' (first|with_reducible (first|apply A7|apply A8|apply A9|apply Ba)|(with_reducible (first|apply Cy|apply Cz|apply C0|apply C1);(conv=>lhs;simp (disch:=first|exact dA|fail) [lw, *,k1]);with_reducible (first|apply A7|apply A8|apply A9|apply Ba|apply Cu|(refine Cv (by simp) ?_)|apply Cx))|(with_reducible (first|apply Kl|apply Km);(conv=>lhs;simp only [zw,k1]))|(with_reducible (first|apply C2|apply C3|apply C4|apply C5|apply Cw)<;>intro hc<;>(try simp only [Bt] at hc)<;>(try (exfalso;omega))))
    refine Sx.Lo ?_ ⟨w1,wo,w3,rfl,?_,?_,?_⟩
    . exact Ex
    . (exact Li)
    . (exact Li)
    . show FrN _ _ _ (Tb q.E9)
      rw [hs]
      (exact Li)
def R10:Prop:=∀(q:Qr) (vc vo vm:AV) (h:H),QV h q vc vo vm->q.code.length<=3000->q.ord.length<=3000->q.E9.length<=3000->Sx.Ah h (AgG h.nx (Oa q)) (ctx.call 10 [.agg (qc q vc vo vm)] h)
set_option maxHeartbeats 4000000 in
theorem r10 (U7:R26 ctx) (U8:R27 ctx) (Pv:N28 ctx) (Kr:N29 ctx) (J3:N30 ctx) (N7:N31 ctx) (hnd:NNd ctx) (hbs:∀l c t,Je l c=some t->size t=l.length/\Kq t) (hns:∀t,Kq t->size (normal t)<=size t) (q:Qr) (vc vo vm:AV) (h:H) (hq:QV h q vc vo vm) (Vs:q.code.length<=3000) (P4:q.ord.length<=3000) (hl3:q.E9.length<=3000):Sx.Ah h (AgG h.nx (Oa q)) (Ay Tryz.prog ctx N false 10 [.agg (qc q vc vo vm)] h):=by
 rw [e10]
 obtain ⟨hc,ho,hm⟩:=hq
 obtain ⟨oc1,oc2⟩:=B2 hc
 obtain ⟨oo1,oo2⟩:=B2 ho
 obtain ⟨om1,om2⟩:=B2 hm
 have jj:=λ(q':Qr) (w1 wo w3:AV) (f0:L2) (h1:H)=>j10 ctx N Pv Kr J3 N7 hnd hbs hns q' w1 wo w3 f0 (h0:=h) (h:=h1)
 replace jj:=(show F5 _ from jj)
 obtain ⟨c0,code,c2,c3,c4,c5,s6,c7,ord,c9,Wz,Uw,W0,s13,s14,s15,c16,E9,s18,c19⟩:=q
 simp only at hc ho hm Vs P4 hl3
 replace hbs:=(show F5 _ from hbs)
 replace hns:=(show F5 _ from hns)
 repeat' (first|with_reducible (first|apply A7|apply A8|apply A9|apply Ba)|((with_reducible (first|apply zc1|apply zc2));exact U7 code vc _ (Sx.Sl.By hc M0) (by omega);intro vv hh ee E8 Bu qq;(first|(have eqt:=Sx.Ai.quiet ee;try simp only [C9] at E8 Bu eqt)|(try simp only [C9] at E8 Bu));obtain ⟨ob,cw⟩:=B2 qq.1;have sf:=qq;(try simp only [C9] at sf))|((with_reducible (first|apply zc1|apply zc2));exact U7 E9 vm _ (Sx.Sl.By hm M0) (by omega);intro vv hh ee E8 Bu qq;(first|(have eqt:=Sx.Ai.quiet ee;try simp only [C9] at E8 Bu eqt)|(try simp only [C9] at E8 Bu));obtain ⟨ob,cw⟩:=B2 qq.1;have sf:=qq;(try simp only [C9] at sf))|((with_reducible (first|apply zc1|apply zc2));exact U8 ord vo _ (Sx.Sl.By ho M0) (by omega);intro vv hh ee E8 Bu qq;(first|(have eqt:=Sx.Ai.quiet ee;try simp only [C9] at E8 Bu eqt)|(try simp only [C9] at E8 Bu));obtain ⟨ob,cw⟩:=B2 qq.1;have sf:=qq;(try simp only [C9] at sf))|(with_reducible (first|apply Cy|apply Cz|apply C0|apply C1);(conv=>lhs;simp (disch:=first|exact dA|fail) [lw, *]);with_reducible (first|apply A7|apply A8|apply A9|apply Ba|apply Cu|(refine Cv (by simp) ?_)|apply Cx))|(with_reducible (first|apply C2|apply C3|apply C4|apply C5|apply Cw)<;>intro hc<;>(try simp only [Bt] at hc)<;>(try (exfalso;omega)))|(refine Sx.B8 ?_ ?_;(focus (simp (disch:=first|decide|omega|(simp only [C9];omega)) [Sx.Aw,Sx.Am,Sx.Ar,Sx.Ax, *];done));(try simp (disch:=first|exact Ce|fail) only [Sx.Aw,Sx.Am,Sx.Bx,Sx.Ap,Sx.At,List.nil_append,List.cons_append,Sx.B9,Sx.Dp,Sx.Dn,C9,Sx.Ca, *])))
 clear hc ho hm
 refine Sx.X0 (Pv false code _ _ 0 ?_ Vs) λv21 O8 e21 q21=>?_
 . (exact Li)
 subst q21
 have AvK:=e21.lo
 have AxP:=e21.Cf
 rename_i w1 _ _ _ _ _ sf1 _ _ _ w3 _ _ _ _ _ sf3 _ _ _
 simp only [Sx.Z9,Sx.ArH,Sx.AcQ,Sx.Ait] at AvK
 have A3J:O8.m.get h.nx=.cells (qc ⟨c0,code,c2,c3,c4,c5,s6,c7,ord,c9,Wz,Uw,W0,s13,s14,s15,c16,E9,s18,c19⟩ w1 vv w3) 26 .exact:=N4
 have A4w:O8.m.get (h.nx+1)=.cells zq 26 .exact:=N4
 have hs1:FrN (h.nx+2) O8 w1 code:=Li
 have hs3:FrN (h.nx+2) O8 w3 E9:=Li
 have hs2:FrO (h.nx+2) O8 vv ord:=Li
 have gR:Sx.Ai h O8:=Ex
 have A3U:h.nx+2<=O8.nx:=by omega
 have hlen:∀hh,Fo w1 hh=.ok (.int .i64 (code.length:Int)) hh:=λ_=>hs1.sl.Gs
 unfold Oa
 simp only
 obtain ⟨p11,p12⟩:=B2 hs1.sl
 clear AxP e21 AvK sf1 sf3
 cases hb:Je code false with
 |none=>
  have hs:Rn code=code:=by unfold Rn;rw [hb]
  rw [hs,show Yy none=.Bj [.B3,.bool false] from rfl]
  clear hbs hns Pv Kr J3 N7 hnd
  repeat' (first|with_reducible (first|apply A7|apply A8|apply A9|apply Ba)|(with_reducible (first|apply Cy|apply Cz|apply C0|apply C1);(conv=>lhs;simp (disch:=first|exact dA|fail) [lw, *]);with_reducible (first|apply A7|apply A8|apply A9|apply Ba|apply Cu|(refine Cv (by simp) ?_)|apply Cx))|(with_reducible (first|apply Kl|apply Km);(conv=>lhs;simp only [zw,Bool.not_true]))|(with_reducible (first|apply C2|apply C3|apply C4|apply C5|apply Cw)<;>intro hc<;>(try simp only [Bt] at hc)<;>(try (exfalso;omega))))
  exact (show ∀(q':Qr) (w1 wo w3:AV) (f0:L2) (h1:H),_ from jj) ⟨c0,code,c2,c3,c4,c5,s6,c7,ord,c9,Wz,Uw,W0,s13,s14,s15,c16,E9,s18,c19⟩ w1 vv w3 _ O8 gR A3U A3J A4w ⟨hs1,hs2,hs3⟩ hl3
 |some t=>
  obtain ⟨b1,b2⟩:=(show ∀l c t,Je l c=some t->size t=l.length/\Kq t from hbs) _ _ _ hb
  have b3:=(show ∀t,Kq t->size (normal t)<=size t from hns) t b2
  rw [show Yy (some t)=.Bj [A3 t,.bool true] from rfl]
  by_cases k:(code.length:Int)<=200
  . have k1:=decide_eq_true k
    have Fc:size t<=200:=by omega
    have AdN:size (normal t)<=1000:=by omega
    have Aqf:∀hh,ctx.call 29 [A3 t] hh=.ok (A3 (normal t)) hh:=λhh=>Kr t hh b2 Fc
    have hn1:∀hh,Sx.Ah hh (λr h1=>FrN hh.nx h1 r (normal t).nodes) (Hn Tryz.prog ctx (A3 (normal t)) (mnm Tryz.prog 109 0) [] hh):=λhh=>hnd _ hh AdN
    have hs:Rn code=(normal t).nodes:=by unfold Rn;rw [hb];exact if_pos (by omega)
    rw [hs]
    clear hbs hns Pv Kr J3 N7 hnd k hb b3 b1 b2
    generalize A3 t=T at *
    generalize A3 (normal t)=T' at *
    generalize (normal t).nodes=L at *
    repeat' (first|with_reducible (first|apply A7|apply A8|apply A9|apply Ba)|(with_reducible (first|apply Cy|apply Cz|apply C0|apply C1);(conv=>lhs;simp (disch:=first|exact dA|fail) [lw, *,k1,Aqf]);with_reducible (first|apply A7|apply A8|apply A9|apply Ba|apply Cu|(refine Cv (by simp) ?_)|apply Cx))|(with_reducible (first|apply Kl|apply Km);(conv=>lhs;simp only [zw,k1]))|(with_reducible (first|apply C2|apply C3|apply C4|apply C5|apply Cw)<;>intro hc<;>(try simp only [Bt] at hc)<;>(try (exfalso;omega))))
    refine Sx.X0 (hn1 _) λv12 Gd e12 AzL=>?_
    obtain ⟨p41,p42⟩:=B2 AzL.sl
    have A2U:=e12.lo
    have AxO:=e12.Cf
    clear hn1
    repeat' (first|with_reducible (first|apply A7|apply A8|apply A9|apply Ba)|(with_reducible (first|apply Cy|apply Cz|apply C0|apply C1);(conv=>lhs;simp (disch:=first|exact dA|fail) [lw, *]);with_reducible (first|apply A7|apply A8|apply A9|apply Ba|apply Cu|(refine Cv (by simp) ?_)|apply Cx))|(with_reducible (first|apply C2|apply C3|apply C4|apply C5|apply Cw)<;>intro hc<;>(try simp only [Bt] at hc)<;>(try (exfalso;omega))))
    exact (show ∀(q':Qr) (w1 wo w3:AV) (f0:L2) (h1:H),_ from jj) ⟨c0,L,c2,c3,c4,c5,s6,c7,ord,c9,Wz,Uw,W0,s13,s14,s15,c16,E9,s18,c19⟩ v12 vv w3 _ _ Ex Ce N4 N4 ⟨Li,Li,Li⟩ hl3
  . have k1:=decide_eq_false k
    have hs:Rn code=code:=by unfold Rn;rw [hb];exact if_neg (by omega)
    rw [hs]
    clear hbs hns Pv Kr J3 N7 hnd k hb b3 b1 b2
    generalize A3 t=T at *
    repeat' (first|with_reducible (first|apply A7|apply A8|apply A9|apply Ba)|(with_reducible (first|apply Cy|apply Cz|apply C0|apply C1);(conv=>lhs;simp (disch:=first|exact dA|fail) [lw, *,k1]);with_reducible (first|apply A7|apply A8|apply A9|apply Ba|apply Cu|(refine Cv (by simp) ?_)|apply Cx))|(with_reducible (first|apply Kl|apply Km);(conv=>lhs;simp only [zw,k1]))|(with_reducible (first|apply C2|apply C3|apply C4|apply C5|apply Cw)<;>intro hc<;>(try simp only [Bt] at hc)<;>(try (exfalso;omega))))
    exact (show ∀(q':Qr) (w1 wo w3:AV) (f0:L2) (h1:H),_ from jj) ⟨c0,code,c2,c3,c4,c5,s6,c7,ord,c9,Wz,Uw,W0,s13,s14,s15,c16,E9,s18,c19⟩ w1 vv w3 _ O8 gR A3U A3J A4w ⟨hs1,hs2,hs3⟩ hl3
end Go.Proofs
