/- Queries: norm's normal form. -/
import Derived.Test.YtecikbfimlolcaaGreatDoorEvRgb
import Derived.Test.YtecikbfimlolcaaGreatDoorEvQb
set_option maxRecDepth 100000
set_option linter.unusedSimpArgs false
set_option linter.unusedVariables false
namespace Go.Proofs
open Go Go.Ev Go.Nm
attribute [local irreducible] Aa Aj Ah Ac
variable (ctx:Ae) (N:Nat)
noncomputable def codeM (l:List Nd):List Nd:=match E7 l false with|some t=>if l.length<=200 then (normal t).nodes else l|none=>l
noncomputable def matM (l:List Nd):List Nd:=match E7 l true with|some t=>if l.length<=200 then (if same (normal t) (fixed true)=true then [] else (normal t).nodes) else l|none=>l
noncomputable def normM (q:Qr):Qr:={ q with code:=codeM q.code,mat:=matM q.mat }
def N28:Prop:=∀ (c:Bool) (l:List Nd) (v:AV) (h:H) (lo:Nat),FrN lo h v l->l.length<=3000->Sx.Af h (fun r _=>r=repO (E7 l c)) (ctx.call 28 [v,.bool c] h)
def N29:Prop:=∀ (t:Tr) (h:H),Reg t->size t<=200->ctx.call 29 [Ax t] h=.ok (Ax (normal t)) h
def N31:Prop:=∀ (h:H),ctx.call 31 [.bool true] h=.ok (Ax (fixed true)) h
def N30:Prop:=∀ (a b:Tr) (h:H),size a<=1000->size b<=1000->ctx.call 30 [Ax a,Ax b] h=.ok (.bool (same a b)) h
def NNd:Prop:=∀ (t:Tr) (h:H),size t<=1000->Sx.Af h (fun r h1=>FrN h.nx h1 r t.nodes) (aMeth Tryz.prog ctx (Ax t) (mnm Tryz.prog 109 0) [] h)
abbrev zq:List AV:=[(.int .i64 0),.Cb,(.int .i64 0),(.int .i64 0),(.int .i64 0),(.int .i64 0),(.str []),(.int .i64 0),.Cb,(.int .i64 0),(.bool false),(.str []),(.int .i64 0),(.str []),(.str []),(.str []),(.int .i64 0),.Cb,(.str []),(.int .i64 0)]
set_option maxHeartbeats 2000000 in
theorem j10 (h28:N28 ctx) (h29:N29 ctx) (h30:N30 ctx) (h31:N31 ctx) (hnd:NNd ctx) (hbs:∀ l c t,E7 l c=some t->size t=l.length/\Reg t) (hns:∀ t,Reg t->size (normal t)<=size t) (q:Qr) (w1 wo w3:AV) (f0:L2) {h0 h:H} (he:Sx.Ai h0 h) (hlo:h0.nx+2<=h.nx) (hg:h.m.get h0.nx=.cells (qc q w1 wo w3) 26 .exact) (hg2:h.m.get (h0.nx+1)=.cells zq 26 .exact) (qs:QS (h0.nx+2) h q w1 wo w3) (hl3:q.mat.length<=3000):
 Sx.Af h0 (QOut h0.nx { q with mat:=matM q.mat }) (J10x1 ctx N (.ptr h0.nx 0) (.ptr (h0.nx+1) 0) f0 h):=by
 obtain ⟨s1,s2,s3⟩:=qs
 obtain ⟨p11,p12⟩:=Bc s1.sl
 obtain ⟨p21,p22⟩:=Bc s2.sl
 obtain ⟨p31,p32⟩:=Bc s3.sl
 have hlen:∀ hh,Ft w3 hh=.ok (.int .i64 (q.mat.length:Int)) hh:=fun _=>s3.sl.lenL
 rw [J10x1s]
 repeat' (first|with_reducible (first|apply A3|apply A4|apply A5|apply A6)|(with_reducible (first|apply Cq|apply Cr|apply Cs|apply Ct);(conv=>lhs;simp (disch:=first|exact dA|fail) [lw, *]);with_reducible (first|apply A3|apply A4|apply A5|apply A6|apply Cn|(refine Co (by simp) ?_)|(apply Cp<;>intro hc<;>(try simp only [Ar] at hc)<;>(try (exfalso;omega)))))|(with_reducible (first|apply Cu|apply Cv|apply Cw|apply Cx)<;>intro hc<;>(try simp only [Ar] at hc)<;>(try (exfalso;omega))))
 refine Sx.D0 (h28 true q.mat w3 _ _ s3 hl3) fun v3 h3 e3 q3=>?_
 subst q3
 have elo3:=e3.lo
 have eold3:=e3.old
 cases hb:E7 q.mat true with
 |none=>
  have hs:matM q.mat=q.mat:=by unfold matM;rw [hb]
  rw [show repO none=.Bl [.Bx,.bool false] from rfl]
  clear hbs hns h28 h29 h30 h31 hnd
  repeat' (first|with_reducible (first|apply A3|apply A4|apply A5|apply A6)|(with_reducible (first|apply Cq|apply Cr|apply Cs|apply Ct);(conv=>lhs;simp (disch:=first|exact dA|fail) [lw, *]);with_reducible (first|apply A3|apply A4|apply A5|apply A6|apply Cn|(refine Co (by simp) ?_)|(apply Cp<;>intro hc<;>(try simp only [Ar] at hc)<;>(try (exfalso;omega)))))|(with_reducible (first|apply ze1|apply ze2);(conv=>lhs;simp only [zw,Bool.not_true]))|(with_reducible (first|apply Cu|apply Cv|apply Cw|apply Cx)<;>intro hc<;>(try simp only [Ar] at hc)<;>(try (exfalso;omega))))
  refine Sx.Cj ?_ ⟨w1,wo,w3,rfl,?_,?_,?_⟩
  . exact Ak
  . (exact Fq)
  . (exact Fq)
  . show FrN _ _ _ (matM q.mat)
    rw [hs]
    (exact Fq)
 |some t=>
  obtain ⟨b1,b2⟩:=hbs _ _ _ hb
  have b3:=hns t b2
  rw [show repO (some t)=.Bl [Ax t,.bool true] from rfl]
  by_cases k:(q.mat.length:Int)<=200
  . have k1:=decide_eq_true k
    have hsz:size t<=200:=by omega
    have hsz2:size (normal t)<=1000:=by omega
    have h29':∀ hh,ctx.call 29 [Ax t] hh=.ok (Ax (normal t)) hh:=fun hh=>h29 t hh b2 hsz
    have h31':∀ hh,ctx.call 31 [.bool true] hh=.ok (Ax (fixed true)) hh:=h31
    have h30':∀ hh,ctx.call 30 [Ax (normal t),Ax (fixed true)] hh=.ok (.bool (same (normal t) (fixed true))) hh:=fun hh=>h30 _ _ hh hsz2 (by rw [A2];omega)
    have hn1:∀ hh,Sx.Af hh (fun r h1=>FrN hh.nx h1 r (normal t).nodes) (aMeth Tryz.prog ctx (Ax (normal t)) (mnm Tryz.prog 109 0) [] hh):=fun hh=>hnd _ hh hsz2
    have hs:matM q.mat=if same (normal t) (fixed true)=true then [] else (normal t).nodes:=by unfold matM;rw [hb];exact if_pos (by omega)
    clear hbs hns h28 h29 h30 h31 hnd k hb b3 b1 b2
    generalize Ax t=T at *
    generalize hT':Ax (normal t)=T' at *
    generalize Ax (fixed true)=F at *
    generalize same (normal t) (fixed true)=B at *
    generalize (normal t).nodes=L at *
    repeat' (first|with_reducible (first|apply A3|apply A4|apply A5|apply A6)|(with_reducible (first|apply Cq|apply Cr|apply Cs|apply Ct);(conv=>lhs;simp (disch:=first|exact dA|fail) [lw, *,k1,h29',h31',h30']);with_reducible (first|apply A3|apply A4|apply A5|apply A6|apply Cn|(refine Co (by simp) ?_)|(apply Cp<;>intro hc<;>(try simp only [Ar] at hc)<;>(try (exfalso;omega)))))|(with_reducible (first|apply ze1|apply ze2);(conv=>lhs;simp only [zw,k1]))|(with_reducible (first|apply Cu|apply Cv|apply Cw|apply Cx)<;>intro hc<;>(try simp only [Ar] at hc)<;>(try (exfalso;omega))))
    refine Sx.D0 (hn1 _) fun v12 h12 e12 sf12=>?_
    obtain ⟨p41,p42⟩:=Bc sf12.sl
    have elo12:=e12.lo
    have eold12:=e12.old
    clear hn1
    cases B
    . rw [if_neg (by decide)] at hs
      repeat' (first|with_reducible (first|apply A3|apply A4|apply A5|apply A6)|(with_reducible (first|apply Cq|apply Cr|apply Cs|apply Ct);(conv=>lhs;simp (disch:=first|exact dA|fail) [lw, *,k1,h29',h31',h30']);with_reducible (first|apply A3|apply A4|apply A5|apply A6|apply Cn|(refine Co (by simp) ?_)|(apply Cp<;>intro hc<;>(try simp only [Ar] at hc)<;>(try (exfalso;omega)))))|(with_reducible (first|apply ze1|apply ze2);(conv=>lhs;simp only [zw,k1]))|(with_reducible (first|apply Cu|apply Cv|apply Cw|apply Cx)<;>intro hc<;>(try simp only [Ar] at hc)<;>(try (exfalso;omega))))
      refine Sx.Cj ?_ ⟨w1,wo,v12,rfl,?_,?_,?_⟩
      . exact Ak
      . (exact Fq)
      . (exact Fq)
      . show FrN _ _ _ (matM q.mat)
        rw [hs]
        (exact Fq)
    . rw [if_pos rfl] at hs
      repeat' (first|with_reducible (first|apply A3|apply A4|apply A5|apply A6)|(with_reducible (first|apply Cq|apply Cr|apply Cs|apply Ct);(conv=>lhs;simp (disch:=first|exact dA|fail) [lw, *,k1,h29',h31',h30']);with_reducible (first|apply A3|apply A4|apply A5|apply A6|apply Cn|(refine Co (by simp) ?_)|(apply Cp<;>intro hc<;>(try simp only [Ar] at hc)<;>(try (exfalso;omega)))))|(with_reducible (first|apply ze1|apply ze2);(conv=>lhs;simp only [zw,k1]))|(with_reducible (first|apply Cu|apply Cv|apply Cw|apply Cx)<;>intro hc<;>(try simp only [Ar] at hc)<;>(try (exfalso;omega))))
      refine Sx.Cj ?_ ⟨w1,wo,.Cb,rfl,?_,?_,?_⟩
      . exact Ak
      . (exact Fq)
      . (exact Fq)
      . show FrN _ _ _ (matM q.mat)
        rw [hs]
        exact Safe.nil rfl rfl
  . have k1:=decide_eq_false k
    have hs:matM q.mat=q.mat:=by unfold matM;rw [hb];exact if_neg (by omega)
    clear hbs hns h28 h29 h30 h31 hnd k hb b3 b1 b2
    generalize Ax t=T at *
    repeat' (first|with_reducible (first|apply A3|apply A4|apply A5|apply A6)|(with_reducible (first|apply Cq|apply Cr|apply Cs|apply Ct);(conv=>lhs;simp (disch:=first|exact dA|fail) [lw, *,k1]);with_reducible (first|apply A3|apply A4|apply A5|apply A6|apply Cn|(refine Co (by simp) ?_)|(apply Cp<;>intro hc<;>(try simp only [Ar] at hc)<;>(try (exfalso;omega)))))|(with_reducible (first|apply ze1|apply ze2);(conv=>lhs;simp only [zw,k1]))|(with_reducible (first|apply Cu|apply Cv|apply Cw|apply Cx)<;>intro hc<;>(try simp only [Ar] at hc)<;>(try (exfalso;omega))))
    refine Sx.Cj ?_ ⟨w1,wo,w3,rfl,?_,?_,?_⟩
    . exact Ak
    . (exact Fq)
    . (exact Fq)
    . show FrN _ _ _ (matM q.mat)
      rw [hs]
      (exact Fq)
def R10:Prop:=∀ (q:Qr) (vc vo vm:AV) (h:H),QV h q vc vo vm->q.code.length<=3000->q.ord.length<=3000->q.mat.length<=3000->Sx.Af h (QOut h.nx (normM q)) (ctx.call 10 [.agg (qc q vc vo vm)] h)
set_option maxHeartbeats 4000000 in
theorem r10 (h26:R26 ctx) (h27:R27 ctx) (h28:N28 ctx) (h29:N29 ctx) (h30:N30 ctx) (h31:N31 ctx) (hnd:NNd ctx) (hbs:∀ l c t,E7 l c=some t->size t=l.length/\Reg t) (hns:∀ t,Reg t->size (normal t)<=size t) (q:Qr) (vc vo vm:AV) (h:H) (hq:QV h q vc vo vm) (hl1:q.code.length<=3000) (hl2:q.ord.length<=3000) (hl3:q.mat.length<=3000):Sx.Af h (QOut h.nx (normM q)) (An Tryz.prog ctx N false 10 [.agg (qc q vc vo vm)] h):=by
 rw [e10]
 obtain ⟨hc,ho,hm⟩:=hq
 obtain ⟨oc1,oc2⟩:=Bc hc
 obtain ⟨oo1,oo2⟩:=Bc ho
 obtain ⟨om1,om2⟩:=Bc hm
 have jj:=fun (q':Qr) (w1 wo w3:AV) (f0:L2) (h1:H)=>j10 ctx N h28 h29 h30 h31 hnd hbs hns q' w1 wo w3 f0 (h0:=h) (h:=h1)
 replace jj:=(show Dl _ from jj)
 obtain ⟨c0,code,c2,c3,c4,c5,s6,c7,ord,c9,b10,s11,c12,s13,s14,s15,c16,mat,s18,c19⟩:=q
 simp only at hc ho hm hl1 hl2 hl3
 replace hbs:=(show Dl _ from hbs)
 replace hns:=(show Dl _ from hns)
 repeat' (first|with_reducible (first|apply A3|apply A4|apply A5|apply A6)|((with_reducible (first|apply Db|apply Dc));exact h26 code vc _ (Sx.Sl.B2 hc E5) (by omega);intro vv hh ee elo eold qq;(first|(have eqt:=Sx.Ai.quiet ee;try simp only [Bp] at elo eold eqt)|(try simp only [Bp] at elo eold));obtain ⟨ob,cw⟩:=Bc qq.1;have sf:=qq;(try simp only [Bp] at sf))|((with_reducible (first|apply Db|apply Dc));exact h26 mat vm _ (Sx.Sl.B2 hm E5) (by omega);intro vv hh ee elo eold qq;(first|(have eqt:=Sx.Ai.quiet ee;try simp only [Bp] at elo eold eqt)|(try simp only [Bp] at elo eold));obtain ⟨ob,cw⟩:=Bc qq.1;have sf:=qq;(try simp only [Bp] at sf))|((with_reducible (first|apply Db|apply Dc));exact h27 ord vo _ (Sx.Sl.B2 ho E5) (by omega);intro vv hh ee elo eold qq;(first|(have eqt:=Sx.Ai.quiet ee;try simp only [Bp] at elo eold eqt)|(try simp only [Bp] at elo eold));obtain ⟨ob,cw⟩:=Bc qq.1;have sf:=qq;(try simp only [Bp] at sf))|(with_reducible (first|apply Cq|apply Cr|apply Cs|apply Ct);(conv=>lhs;simp (disch:=first|exact dA|fail) [lw, *]);with_reducible (first|apply A3|apply A4|apply A5|apply A6|apply Cn|(refine Co (by simp) ?_)|(apply Cp<;>intro hc<;>(try simp only [Ar] at hc)<;>(try (exfalso;omega)))))|(with_reducible (first|apply Cu|apply Cv|apply Cw|apply Cx)<;>intro hc<;>(try simp only [Ar] at hc)<;>(try (exfalso;omega)))|(refine Sx.Ex ?_ ?_;(focus (simp (disch:=first|decide|omega|(simp only [Bp];omega)) [Sx.B1,Sx.Bb,Sx.Br,Sx.B4, *];done));(try simp (disch:=first|exact Ch|fail) only [Sx.B1,Sx.Bb,Sx.Du,Sx.A8,Sx.Bk,List.nil_append,List.cons_append,Sx.Ey,Sx.put_lg,Sx.new_lg,Bp,Sx.Ez, *])))
 clear hc ho hm
 refine Sx.D0 (h28 false code _ _ 0 ?_ hl1) fun v21 h21 e21 q21=>?_
 . (exact Fq)
 subst q21
 have elo21:=e21.lo
 have eold21:=e21.old
 rename_i w1 _ _ _ _ _ sf1 _ _ _ w3 _ _ _ _ _ sf3 _ _ _
 simp only [Sx.new_nx,Sx.put_nx,Sx.F6,Sx.reLog_nx] at elo21
 have hg21:h21.m.get h.nx=.cells (qc ⟨c0,code,c2,c3,c4,c5,s6,c7,ord,c9,b10,s11,c12,s13,s14,s15,c16,mat,s18,c19⟩ w1 vv w3) 26 .exact:=Ep
 have hz21:h21.m.get (h.nx+1)=.cells zq 26 .exact:=Ep
 have hs1:FrN (h.nx+2) h21 w1 code:=Fq
 have hs3:FrN (h.nx+2) h21 w3 mat:=Fq
 have hs2:FrO (h.nx+2) h21 vv ord:=Fq
 have gR:Sx.Ai h h21:=Ak
 have hl21:h.nx+2<=h21.nx:=by omega
 have hlen:∀ hh,Ft w1 hh=.ok (.int .i64 (code.length:Int)) hh:=fun _=>hs1.sl.lenL
 unfold normM
 simp only
 obtain ⟨p11,p12⟩:=Bc hs1.sl
 clear eold21 e21 elo21 sf1 sf3
 cases hb:E7 code false with
 |none=>
  have hs:codeM code=code:=by unfold codeM;rw [hb]
  rw [hs,show repO none=.Bl [.Bx,.bool false] from rfl]
  clear hbs hns h28 h29 h30 h31 hnd
  repeat' (first|with_reducible (first|apply A3|apply A4|apply A5|apply A6)|(with_reducible (first|apply Cq|apply Cr|apply Cs|apply Ct);(conv=>lhs;simp (disch:=first|exact dA|fail) [lw, *]);with_reducible (first|apply A3|apply A4|apply A5|apply A6|apply Cn|(refine Co (by simp) ?_)|(apply Cp<;>intro hc<;>(try simp only [Ar] at hc)<;>(try (exfalso;omega)))))|(with_reducible (first|apply ze1|apply ze2);(conv=>lhs;simp only [zw,Bool.not_true]))|(with_reducible (first|apply Cu|apply Cv|apply Cw|apply Cx)<;>intro hc<;>(try simp only [Ar] at hc)<;>(try (exfalso;omega))))
  exact (show ∀ (q':Qr) (w1 wo w3:AV) (f0:L2) (h1:H),_ from jj) ⟨c0,code,c2,c3,c4,c5,s6,c7,ord,c9,b10,s11,c12,s13,s14,s15,c16,mat,s18,c19⟩ w1 vv w3 _ h21 gR hl21 hg21 hz21 ⟨hs1,hs2,hs3⟩ hl3
 |some t=>
  obtain ⟨b1,b2⟩:=(show ∀ l c t,E7 l c=some t->size t=l.length/\Reg t from hbs) _ _ _ hb
  have b3:=(show ∀ t,Reg t->size (normal t)<=size t from hns) t b2
  rw [show repO (some t)=.Bl [Ax t,.bool true] from rfl]
  by_cases k:(code.length:Int)<=200
  . have k1:=decide_eq_true k
    have hsz:size t<=200:=by omega
    have hsz2:size (normal t)<=1000:=by omega
    have h29':∀ hh,ctx.call 29 [Ax t] hh=.ok (Ax (normal t)) hh:=fun hh=>h29 t hh b2 hsz
    have hn1:∀ hh,Sx.Af hh (fun r h1=>FrN hh.nx h1 r (normal t).nodes) (aMeth Tryz.prog ctx (Ax (normal t)) (mnm Tryz.prog 109 0) [] hh):=fun hh=>hnd _ hh hsz2
    have hs:codeM code=(normal t).nodes:=by unfold codeM;rw [hb];exact if_pos (by omega)
    rw [hs]
    clear hbs hns h28 h29 h30 h31 hnd k hb b3 b1 b2
    generalize Ax t=T at *
    generalize Ax (normal t)=T' at *
    generalize (normal t).nodes=L at *
    repeat' (first|with_reducible (first|apply A3|apply A4|apply A5|apply A6)|(with_reducible (first|apply Cq|apply Cr|apply Cs|apply Ct);(conv=>lhs;simp (disch:=first|exact dA|fail) [lw, *,k1,h29']);with_reducible (first|apply A3|apply A4|apply A5|apply A6|apply Cn|(refine Co (by simp) ?_)|(apply Cp<;>intro hc<;>(try simp only [Ar] at hc)<;>(try (exfalso;omega)))))|(with_reducible (first|apply ze1|apply ze2);(conv=>lhs;simp only [zw,k1]))|(with_reducible (first|apply Cu|apply Cv|apply Cw|apply Cx)<;>intro hc<;>(try simp only [Ar] at hc)<;>(try (exfalso;omega))))
    refine Sx.D0 (hn1 _) fun v12 h12 e12 sf12=>?_
    obtain ⟨p41,p42⟩:=Bc sf12.sl
    have elo12:=e12.lo
    have eold12:=e12.old
    clear hn1
    repeat' (first|with_reducible (first|apply A3|apply A4|apply A5|apply A6)|(with_reducible (first|apply Cq|apply Cr|apply Cs|apply Ct);(conv=>lhs;simp (disch:=first|exact dA|fail) [lw, *]);with_reducible (first|apply A3|apply A4|apply A5|apply A6|apply Cn|(refine Co (by simp) ?_)|(apply Cp<;>intro hc<;>(try simp only [Ar] at hc)<;>(try (exfalso;omega)))))|(with_reducible (first|apply Cu|apply Cv|apply Cw|apply Cx)<;>intro hc<;>(try simp only [Ar] at hc)<;>(try (exfalso;omega))))
    exact (show ∀ (q':Qr) (w1 wo w3:AV) (f0:L2) (h1:H),_ from jj) ⟨c0,L,c2,c3,c4,c5,s6,c7,ord,c9,b10,s11,c12,s13,s14,s15,c16,mat,s18,c19⟩ v12 vv w3 _ _ Ak Ch Ep Ep ⟨Fq,Fq,Fq⟩ hl3
  . have k1:=decide_eq_false k
    have hs:codeM code=code:=by unfold codeM;rw [hb];exact if_neg (by omega)
    rw [hs]
    clear hbs hns h28 h29 h30 h31 hnd k hb b3 b1 b2
    generalize Ax t=T at *
    repeat' (first|with_reducible (first|apply A3|apply A4|apply A5|apply A6)|(with_reducible (first|apply Cq|apply Cr|apply Cs|apply Ct);(conv=>lhs;simp (disch:=first|exact dA|fail) [lw, *,k1]);with_reducible (first|apply A3|apply A4|apply A5|apply A6|apply Cn|(refine Co (by simp) ?_)|(apply Cp<;>intro hc<;>(try simp only [Ar] at hc)<;>(try (exfalso;omega)))))|(with_reducible (first|apply ze1|apply ze2);(conv=>lhs;simp only [zw,k1]))|(with_reducible (first|apply Cu|apply Cv|apply Cw|apply Cx)<;>intro hc<;>(try simp only [Ar] at hc)<;>(try (exfalso;omega))))
    exact (show ∀ (q':Qr) (w1 wo w3:AV) (f0:L2) (h1:H),_ from jj) ⟨c0,code,c2,c3,c4,c5,s6,c7,ord,c9,b10,s11,c12,s13,s14,s15,c16,mat,s18,c19⟩ w1 vv w3 _ h21 gR hl21 hg21 hz21 ⟨hs1,hs2,hs3⟩ hl3
end Go.Proofs
