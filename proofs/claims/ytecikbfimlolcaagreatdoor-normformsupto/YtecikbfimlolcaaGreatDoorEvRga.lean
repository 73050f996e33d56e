/- Queries: the large ones. -/
import Derived.Test.YtecikbfimlolcaaGreatDoorEvRg
import Derived.Test.YtecikbfimlolcaaGreatDoorEvQb
set_option maxRecDepth 100000
set_option linter.unusedSimpArgs false
set_option linter.unusedVariables false
namespace Go.Proofs
open Go Go.Ev Go.Nm
attribute [local irreducible] Aa Aj Ah Ac
variable (ctx:Ae) (N:Nat)
def vast (q:Qr):Bool:=decide (300<q.code.length)||decide (300<q.mat.length)||decide (300<q.ord.length)
def R23:Prop:=∀ (q:Qr) (vc vo vm:AV) (h:H),QV h q vc vo vm->Sx.Af h (fun r _=>r=.bool (vast q)) (ctx.call 23 [.agg (qc q vc vo vm)] h)
theorem r23 (q:Qr) (vc vo vm:AV) (h:H) (hq:QV h q vc vo vm):Sx.Af h (fun r _=>r=.bool (vast q)) (An Tryz.prog ctx N true 23 [.agg (qc q vc vo vm)] h):=by
 rw [e23]
 obtain ⟨hc,ho,hm⟩:=hq
 obtain ⟨oc1,oc2⟩:=Bc hc
 obtain ⟨oo1,oo2⟩:=Bc ho
 obtain ⟨om1,om2⟩:=Bc hm
 obtain ⟨c0,code,c2,c3,c4,c5,s6,c7,ord,c9,b10,s11,c12,s13,s14,s15,c16,mat,s18,c19⟩:=q
 simp only at hc ho hm
 have hl1:∀ hh,Ft vc hh=.ok (.int .i64 (code.length:Int)) hh:=fun _=>hc.lenL
 have hl2:∀ hh,Ft vm hh=.ok (.int .i64 (mat.length:Int)) hh:=fun _=>hm.lenL
 have hl3:∀ hh,Ft vo hh=.ok (.int .i64 (ord.length:Int)) hh:=fun _=>ho.lenL
 clear hc ho hm
 cases k1:decide ((300:Int)<(code.length:Int))<;>cases k2:decide ((300:Int)<(mat.length:Int))<;>cases k3:decide ((300:Int)<(ord.length:Int))
 all_goals repeat' (first|with_reducible (first|apply A3|apply A4|apply A5|apply A6)|(with_reducible (first|apply Cq|apply Cr|apply Cs|apply Ct);(conv=>lhs;simp (disch:=first|exact dA|fail) [lw, *,k1,k2,k3]);with_reducible (first|apply A3|apply A4|apply A5|apply A6|apply Cn|(refine Co (by simp) ?_)|(apply Cp<;>intro hc<;>(try simp only [Ar] at hc)<;>(try (exfalso;omega)))))|(with_reducible (first|apply ze1|apply ze2);(conv=>lhs;simp only [zw,k1,k2,k3]))|(with_reducible (first|apply Cu|apply Cv|apply Cw|apply Cx)<;>intro hc<;>(try simp only [Ar] at hc)<;>(try (exfalso;omega))))
 all_goals
  simp only [decide_eq_true_eq,decide_eq_false_iff_not] at k1 k2 k3
  refine Sx.Cj ?_ ?_
  . exact Ak
  . simp [vast];omega
def LOut (q:Qr) (r:AV) (_:H):Prop:=∃ b,r=.bool b/\(b=false->vast q=false)
structure Txt (q:Qr):Prop where
 t18:(q.s18.length:Int)<=1000000000
 t11:(q.s11.length:Int)<=1000000000
 t13:(q.s13.length:Int)<=1000000000
 t14:(q.s14.length:Int)<=1000000000
 t15:(q.s15.length:Int)<=1000000000
 t6:(q.s6.length:Int)<=1000000000
set_option maxHeartbeats 1000000 in
theorem tail7 (q:Qr) (vc vo vm t3:AV) (i m n:Int) (bx k:Nat) (V:Bool) (f0:L2) {h0 h:H} (hlen:∀ hh,Ft t3 hh=.ok (.int .i64 n) hh) (ht:Txt q) (oc2:cellsOf vc=some [vc]) (oo2:cellsOf vo=some [vo]) (om2:cellsOf vm=some [vm]) (hg:h.m.get bx=.cells (qc q vc vo vm) 26 .exact) (he:Sx.Ai h0 h) (hbx:bx<h.nx)
 (h23:Sx.Af h (fun r _=>r=.bool V) (ctx.call 23 [.agg (qc q vc vo vm)] h)) (hlt:(decide (i<n)=false)\/(decide (i<n)=true/\decide (i<700)=false)):
 Sx.Af h0 (fun r _=>∃ b,r=.bool b/\(b=false->V=false)) (L7x1 ctx N (k+1) (.ptr bx 0) t3 (.int .i64 i) f0 h):=by
 obtain ⟨c0,code,c2,c3,c4,c5,s6,c7,ord,c9,b10,s11,c12,s13,s14,s15,c16,mat,s18,c19⟩:=q
 obtain ⟨t18,t11,t13,t14,t15,t6⟩:=ht
 simp only at t18 t11 t13 t14 t15 t6
 rcases hlt with k1|⟨k1,k2⟩
 . cases V
   . rw [L7x1s]
     repeat' (first|with_reducible (first|apply A3|apply A4|apply A5|apply A6)|((with_reducible (first|apply Db|apply Dc));exact h23  ;intro vv hh ee elo eold qq;(try simp only [Bp] at elo eold);subst qq)|(with_reducible (first|apply Cq|apply Cr|apply Cs|apply Ct);(conv=>lhs;simp (disch:=first|exact dA|fail) [lw, *,k1]);with_reducible (first|apply A3|apply A4|apply A5|apply A6|apply Cn|(refine Co (by simp) ?_)|(apply Cp<;>intro hc<;>(try simp only [Ar] at hc)<;>(try (exfalso;omega)))))|(with_reducible (first|apply ze1|apply ze2);(conv=>lhs;simp only [zw,k1]))|(with_reducible (first|apply Cu|apply Cv|apply Cw|apply Cx)<;>intro hc<;>(try simp only [Ar] at hc)<;>(try (exfalso;omega))))
     refine Sx.Cj ?_ ⟨_,rfl,fun _=>rfl⟩
     exact Ak
   . rw [L7x1s]
     repeat' (first|with_reducible (first|apply A3|apply A4|apply A5|apply A6)|((with_reducible (first|apply Db|apply Dc));exact h23  ;intro vv hh ee elo eold qq;(try simp only [Bp] at elo eold);subst qq)|(with_reducible (first|apply Cq|apply Cr|apply Cs|apply Ct);(conv=>lhs;simp (disch:=first|exact dA|fail) [lw, *,k1]);with_reducible (first|apply A3|apply A4|apply A5|apply A6|apply Cn|(refine Co (by simp) ?_)|(apply Cp<;>intro hc<;>(try simp only [Ar] at hc)<;>(try (exfalso;omega)))))|(with_reducible (first|apply ze1|apply ze2);(conv=>lhs;simp only [zw,k1]))|(with_reducible (first|apply Cu|apply Cv|apply Cw|apply Cx)<;>intro hc<;>(try simp only [Ar] at hc)<;>(try (exfalso;omega))))
     refine Sx.Cj ?_ ⟨_,rfl,fun hh=>by cases hh⟩
     exact Ak
 . cases V
   . rw [L7x1s]
     repeat' (first|with_reducible (first|apply A3|apply A4|apply A5|apply A6)|((with_reducible (first|apply Db|apply Dc));exact h23  ;intro vv hh ee elo eold qq;(try simp only [Bp] at elo eold);subst qq)|(with_reducible (first|apply Cq|apply Cr|apply Cs|apply Ct);(conv=>lhs;simp (disch:=first|exact dA|fail) [lw, *,k1,k2]);with_reducible (first|apply A3|apply A4|apply A5|apply A6|apply Cn|(refine Co (by simp) ?_)|(apply Cp<;>intro hc<;>(try simp only [Ar] at hc)<;>(try (exfalso;omega)))))|(with_reducible (first|apply ze1|apply ze2);(conv=>lhs;simp only [zw,k1,k2]))|(with_reducible (first|apply Cu|apply Cv|apply Cw|apply Cx)<;>intro hc<;>(try simp only [Ar] at hc)<;>(try (exfalso;omega))))
     refine Sx.Cj ?_ ⟨_,rfl,fun _=>rfl⟩
     exact Ak
   . rw [L7x1s]
     repeat' (first|with_reducible (first|apply A3|apply A4|apply A5|apply A6)|((with_reducible (first|apply Db|apply Dc));exact h23  ;intro vv hh ee elo eold qq;(try simp only [Bp] at elo eold);subst qq)|(with_reducible (first|apply Cq|apply Cr|apply Cs|apply Ct);(conv=>lhs;simp (disch:=first|exact dA|fail) [lw, *,k1,k2]);with_reducible (first|apply A3|apply A4|apply A5|apply A6|apply Cn|(refine Co (by simp) ?_)|(apply Cp<;>intro hc<;>(try simp only [Ar] at hc)<;>(try (exfalso;omega)))))|(with_reducible (first|apply ze1|apply ze2);(conv=>lhs;simp only [zw,k1,k2]))|(with_reducible (first|apply Cu|apply Cv|apply Cw|apply Cx)<;>intro hc<;>(try simp only [Ar] at hc)<;>(try (exfalso;omega))))
     refine Sx.Cj ?_ ⟨_,rfl,fun hh=>by cases hh⟩
     exact Ak
theorem loop7 (h23:R23 ctx) (q:Qr) (vc vo vm t3:AV) (l:List Nd) (bx:Nat) {h0 h:H} (ht:Txt q) (hq:QV h q vc vo vm) (hv:NdS h t3 l) (hg:h.m.get bx=.cells (qc q vc vo vm) 26 .exact) (he:Sx.Ai h0 h) (hbx:bx<h.nx):
 ∀ (k i n:Nat) (f0:L2),i+k=min l.length 700->k<n->Sx.Af h0 (LOut q) (L7x1 ctx N n (.ptr bx 0) t3 (.int .i64 (i:Int)) f0 h):=by
 have hlen:∀ hh,Ft t3 hh=.ok (.int .i64 (l.length:Int)) hh:=fun _=>hv.lenL
 intro k
 induction k with
 |zero=>
  intro i n f0 hi hn
  obtain ⟨n,rfl⟩:∃ m,n=m+1:=⟨n - 1,by omega⟩
  refine tail7 ctx N q vc vo vm t3 i 0 (l.length:Int) bx n (vast q) f0 hlen ht (Bc hq.c).2 (Bc hq.o).2 (Bc hq.m).2 hg he hbx (h23 q vc vo vm h hq) ?_
  cases k1:decide ((i:Int)<(l.length:Int))
  . exact .inl rfl
  . rw [decide_eq_true_eq] at k1
    exact .inr ⟨rfl,by rw [decide_eq_false_iff_not];omega⟩
 |succ k ih=>
  intro i n f0 hi hn
  obtain ⟨n,rfl⟩:∃ m,n=m+1:=⟨n - 1,by omega⟩
  have hil:i<l.length:=by omega
  have h700:i<700:=by omega
  obtain ⟨b,p,p1,p2,p3,p4,p5⟩:=nd_get hv (i:=i) (x:=l[i]) (List.getElem?_eq_getElem hil)
  have k1:decide ((i:Int)<(l.length:Int))=true:=by rw [decide_eq_true_eq];omega
  have k2:decide ((i:Int)<700)=true:=by rw [decide_eq_true_eq];omega
  have p5':∀ hh,Sx.A9 h hh->Ad (some none) (.ptr b (p+2)) hh=.ok (.str l[i].col) hh:=p5
  clear p2 p3 p4 p5
  generalize l[i].col=col at p5'
  have ih':=ih (i+1) n
  replace ih':=(show Dl _ from ih')
  clear ih hq hv hg
  rw [L7x1s]
  cases k3:decide ((100:Int)<(col.length:Int))
  . repeat' (first|with_reducible (first|apply A3|apply A4|apply A5|apply A6)|(with_reducible (first|apply Cq|apply Cr|apply Cs|apply Ct);(conv=>lhs;simp (disch:=first|exact dA|fail) [lw, *,k1,k2,k3]);with_reducible (first|apply A3|apply A4|apply A5|apply A6|apply Cn|(refine Co (by simp) ?_)|(apply Cp<;>intro hc<;>(try simp only [Ar] at hc)<;>(try (exfalso;omega)))))|(with_reducible (first|apply ze1|apply ze2);(conv=>lhs;simp only [zw,k1,k2]))|(with_reducible (first|apply Cu|apply Cv|apply Cw|apply Cx)<;>intro hc<;>(try simp only [Ar] at hc)<;>(try (exfalso;omega))))
    have hcast:(i:Int)+1=((i+1:Nat):Int):=by omega
    rw [hcast]
    exact ih' _ (by omega) (by omega)
  . repeat' (first|with_reducible (first|apply A3|apply A4|apply A5|apply A6)|(with_reducible (first|apply Cq|apply Cr|apply Cs|apply Ct);(conv=>lhs;simp (disch:=first|exact dA|fail) [lw, *,k1,k2,k3]);with_reducible (first|apply A3|apply A4|apply A5|apply A6|apply Cn|(refine Co (by simp) ?_)|(apply Cp<;>intro hc<;>(try simp only [Ar] at hc)<;>(try (exfalso;omega)))))|(with_reducible (first|apply ze1|apply ze2);(conv=>lhs;simp only [zw,k1,k2]))|(with_reducible (first|apply Cu|apply Cv|apply Cw|apply Cx)<;>intro hc<;>(try simp only [Ar] at hc)<;>(try (exfalso;omega))))
    refine Sx.Cj ?_ ⟨_,rfl,fun hh=>by cases hh⟩
    exact Ak
set_option maxHeartbeats 1000000 in
theorem r7 (h22:R22 ctx) (h23:R23 ctx) (hN:701<=N) (q:Qr) (vc vo vm:AV) (h:H) (ht:Txt q) (hq:QV h q vc vo vm) (hl1:q.code.length<=1000000) (hl3:q.mat.length<=1000000):Sx.Af h (LOut q) (An Tryz.prog ctx N false 7 [.agg (qc q vc vo vm)] h):=by
 rw [e7]
 have hq0:=hq
 obtain ⟨hc,ho,hm⟩:=hq
 obtain ⟨oc1,oc2⟩:=Bc hc
 obtain ⟨oo1,oo2⟩:=Bc ho
 obtain ⟨om1,om2⟩:=Bc hm
 replace hq0:=(show Dl _ from hq0)
 replace ho:=(show Dl _ from ho)
 have hm':=hm
 replace hm:=(show Dl _ from hm)
 repeat' (first|with_reducible (first|apply A3|apply A4|apply A5|apply A6)|((with_reducible (first|apply Db|apply Dc));exact h22 q.code vc _ (Sx.Sl.B2 hc E5) (by omega);intro vv hh ee elo eold qq;(try simp only [Bp] at elo eold);obtain ⟨ob,cw⟩:=Bc qq.sl;have sf:=NdO.fr qq;(try simp only [Bp] at sf))|(with_reducible (first|apply Cq|apply Cr|apply Cs|apply Ct);(conv=>lhs;simp (disch:=first|exact dA|fail) [lw, *]);with_reducible (first|apply A3|apply A4|apply A5|apply A6|apply Cn|(refine Co (by simp) ?_)|(apply Cp<;>intro hc<;>(try simp only [Ar] at hc)<;>(try (exfalso;omega)))))|(with_reducible (first|apply Cu|apply Cv|apply Cw|apply Cx)<;>intro hc<;>(try simp only [Ar] at hc)<;>(try (exfalso;omega))))
 have ho4:NdO (h.nx+1) (Ab (Ab hh)) vv q.code:=Sx.Own.gr qq ((Sx.Ai.refl hh).nl.nl)
 obtain ⟨v7,h7,rF,kF,fF,oF,gO⟩:=Sx.Own.app (y:=vm) (bytes:=32) ho4 (Sx.Sl.B2 hm' E5) (by omega) (one_flat _) (by show h.nx+1<=hh.nx;omega)
 refine Sx.B8 rF ?_
 have gh:Sx.Ai h hh:=Ak
 have gF:Sx.Ai h h7:=fF h (by omega) gh.nl.nl
 have gg:h7.m.get h.nx=.cells (qc q vc vo vm) 26 .exact:=by
  rw [gO _ (by omega)]
  show hh.m.get h.nx=_
  exact Ep
 have n7:h.nx<h7.nx:=by have:=kF.lo;have h9:(Ab (Ab hh)).nx=hh.nx:=rfl;omega
 have eqt:wrote (h.nx+1) hh.lg=[]:=Sx.Ai.quiet ee
 refine gv_drAll gF (fun z hz=>?_) (effOk_all _ fun e he=>?_) ?_ fun L gL kL=>?_
 . exact .inl hz
 . simp only [List.mem_cons,List.not_mem_nil,or_false] at he
   rcases he with rfl|rfl|rfl|rfl|rfl|rfl|rfl
   all_goals first|exact .inl rfl|exact .inl (by show nilN (wrote (h.nx+1) hh.lg)=true;rw [eqt];rfl)|exact .inr (by simp (disch:=decide) only [Sx.Ek,Sx.E4,Sx.Fv,Sx.Br,Sx.B4,Bool.and_self])
 . intro e he
   simp only [List.mem_cons,List.not_mem_nil,or_false] at he
   rcases he with rfl|rfl|rfl|rfl|rfl|rfl|rfl
   all_goals first|exact .inl rfl|exact .inl eqt|exact .inl (by simp only [Sx.F6,Sx.new_nx];exact eqt)|exact .inr ⟨_,rfl⟩
 . have hv:NdS (Ap L h7) v7 (q.code++q.mat):=by
    have h9:=oF.sl.B2 kL
    unfold NdS Sx.SlF
    rw [List.length_append,List.flatMap_append]
    exact h9
   have hq1:QV (Ap L h7) q vc vo vm:=QV.B2 (show QV h q vc vo vm from hq0) (gF.keeps.trans kL)
   exact loop7 ctx N h23 q vc vo vm v7 (q.code++q.mat) h.nx ht hq1 hv gg gL n7 (min (q.code++q.mat).length 700) 0 N _ (by omega) (by omega)
end Go.Proofs
