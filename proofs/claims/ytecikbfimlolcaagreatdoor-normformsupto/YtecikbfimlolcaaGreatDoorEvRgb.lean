/- Queries: lists normalized. Queries: the reference's normal form. -/
import Derived.Test.YtecikbfimlolcaaGreatDoorEvRga
set_option maxRecDepth 100000
set_option linter.unusedSimpArgs false
set_option linter.unusedVariables false
namespace Go.Proofs
open Go Go.Ev Go.Nm
attribute [local irreducible] Aa Aj Ah Ac
variable (ctx:Ae) (N:Nat)
noncomputable def normL (l:List Nd) (c:Bool):List Nd:=match E7 l c with|some t=>if l.length<=200 then (Au t).nodes else l|none=>l
def R70:Prop:=∀ (c:Bool) (l:List Nd) (v:AV) (h:H),NdS h v l->l.length<=3000->Sx.Af h (Read (E7 l c)) (ctx.call 70 [v,.str (kindL c)] h)
def R71s:Prop:=∀ t,size t<=200->R71 ctx t
def R32:Prop:=∀ (c:Bool) (l:List Nd) (v:AV) (h:H),NdS h v l->l.length<=3000->Sx.Af h (fun r h1=>FrN h.nx h1 r (normL l c)) (ctx.call 32 [v,.str (kindL c)] h)
set_option maxHeartbeats 1000000 in
theorem r32 (h70:R70 ctx) (h71:R71s ctx) (h35:R35s ctx) (hbs:∀ l c t,E7 l c=some t->size t=l.length) (hns:∀ t,Reg t->size (Au t)<=size t) (c:Bool) (l:List Nd) (v:AV) (h:H) (hv:NdS h v l) (hl:l.length<=3000):Sx.Af h (fun r h1=>FrN h.nx h1 r (normL l c)) (An Tryz.prog ctx N true 32 [v,.str (kindL c)] h):=by
 rw [e32]
 refine Sx.D0 (h70 c l v h hv hl) fun vv hh ee qq=>?_
 have hlen:∀ hh,Ft v hh=.ok (.int .i64 (l.length:Int)) hh:=fun _=>hv.lenL
 have hv':=hv
 replace hv:=(show Dl _ from hv)
 have elo:=ee.lo
 rcases qq with ⟨hn,rfl⟩|⟨t,w,hn,rfl,qt⟩
 . have hs:normL l c=l:=by unfold normL;rw [hn]
   rw [hs]
   cases k1:decide ((200:Int)<(l.length:Int))
   all_goals
    repeat' (first|with_reducible (first|apply A3|apply A4|apply A5|apply A6)|(with_reducible (first|apply Cq|apply Cr|apply Cs|apply Ct);(conv=>lhs;simp (disch:=first|exact dA|fail) [lw, *,k1]);with_reducible (first|apply A3|apply A4|apply A5|apply A6|apply Cn|(refine Co (by simp) ?_)|(apply Cp<;>intro hc<;>(try simp only [Ar] at hc)<;>(try (exfalso;omega)))))|(with_reducible (first|apply ze1|apply ze2);(conv=>lhs;simp only [zw,k1]))|(with_reducible (first|apply Cu|apply Cv|apply Cw|apply Cx)<;>intro hc<;>(try simp only [Ar] at hc)<;>(try (exfalso;omega))))
    have e:Sx.Ai h ((hh.new (.cells [.int .i64 0,.int .i64 0,.str [],.Cb] 67 .exact)).put hh.nx (.cells [.int .i64 0,.int .i64 0,.str [],.Cb] 67 .exact)):=Ak
    obtain ⟨w,h',q1,q2,q3⟩:=cp (bytes:=32) (et:=32) (lo:=hh.nx+1) (by omega) (hv'.B2 e.keeps) (one_flat l) (Nat.le_refl _)
    exact Sx.B8 q1 (Sx.Cj (e.trans q2) ((Safe.own q3).weak (by omega)))
 . obtain ⟨ob,cw⟩:=qt.ob
   have hst:=hbs l c t hn
   have hrt:=hns t qt.reg
   have e:Sx.Ai h ((hh.new (.cells [.int .i64 0,.int .i64 0,.str [],.Cb] 67 .exact)).put hh.nx (.cells (rc t w) 67 .exact)):=Ak
   have e1:Sx.A9 hh ((hh.new (.cells [.int .i64 0,.int .i64 0,.str [],.Cb] 67 .exact)).put hh.nx (.cells (rc t w) 67 .exact)):=Sx.Ai.keeps Ak
   by_cases k:(200:Int)<(l.length:Int)
   . have hs:normL l c=l:=by unfold normL;rw [hn];exact if_neg (by omega)
     rw [hs]
     have k1:=decide_eq_true k
     clear hst hrt hbs hns hs k
     repeat' (first|with_reducible (first|apply A3|apply A4|apply A5|apply A6)|(with_reducible (first|apply Cq|apply Cr|apply Cs|apply Ct);(conv=>lhs;simp (disch:=first|exact dA|fail) [lw, *,k1,ob,cw,rc]);with_reducible (first|apply A3|apply A4|apply A5|apply A6|apply Cn|(refine Co (by simp) ?_)|(apply Cp<;>intro hc<;>(try simp only [Ar] at hc)<;>(try (exfalso;omega)))))|(with_reducible (first|apply ze1|apply ze2);(conv=>lhs;simp only [zw,k1]))|(with_reducible (first|apply Cu|apply Cv|apply Cw|apply Cx)<;>intro hc<;>(try simp only [Ar] at hc)<;>(try (exfalso;omega))))
     obtain ⟨w,h',q1,q2,q3⟩:=cp (bytes:=32) (et:=32) (lo:=hh.nx+1) (by omega) (hv'.B2 e.keeps) (one_flat l) (Nat.le_refl _)
     exact Sx.B8 q1 (Sx.Cj (e.trans q2) ((Safe.own q3).weak (by omega)))
   . have hs:normL l c=(Au t).nodes:=by unfold normL;rw [hn];exact if_pos (by omega)
     rw [hs]
     have k1:=decide_eq_false k
     have qt':=qt.B2 e1
     have hs1:size t<=200:=by omega
     have hs2:size (Au t)<=1000:=by omega
     have h71':=h71 t hs1 w _ qt'
     clear hst hrt hbs hns hs k qt hn
     repeat' (first|with_reducible (first|apply A3|apply A4|apply A5|apply A6)|(with_reducible (first|apply Cq|apply Cr|apply Cs|apply Ct);(conv=>lhs;simp (disch:=first|exact dA|fail) [lw, *,k1,ob,cw,rc]);with_reducible (first|apply A3|apply A4|apply A5|apply A6|apply Cn|(refine Co (by simp) ?_)|(apply Cp<;>intro hc<;>(try simp only [Ar] at hc)<;>(try (exfalso;omega)))))|(with_reducible (first|apply ze1|apply ze2);(conv=>lhs;simp only [zw,k1]))|(with_reducible (first|apply Cu|apply Cv|apply Cw|apply Cx)<;>intro hc<;>(try simp only [Ar] at hc)<;>(try (exfalso;omega))))
     refine Sx.D0 h71' fun vv2 h2 ee2 q2=>?_
     obtain ⟨w2,rfl,qt2⟩:=q2
     refine Sx.D0 (h35 (Au t) hs2 w2 h2 qt2) fun vv3 h3 ee3 q3=>?_
     have:=e.lo
     have:=ee2.lo
     exact Sx.Cj ((e.trans ee2).trans ee3) ((NdO.fr q3).weak (by omega))
end Go.Proofs
namespace Go.Proofs
open Go Go.Ev Go.Nm
attribute [local irreducible] Aa Aj Ah Ac
variable (ctx:Ae) (N:Nat)
noncomputable def matN (l:List Nd):List Nd:=if normL l true=(fixed true).nodes then [] else normL l true
noncomputable def normQ (q:Qr):Qr:={ q with code:=normL q.code false,mat:=matN q.mat }
def R11:Prop:=∀ (q:Qr) (vc vo vm:AV) (h:H),QV h q vc vo vm->q.code.length<=3000->q.ord.length<=3000->q.mat.length<=3000->Sx.Af h (QOut h.nx (normQ q)) (ctx.call 11 [.agg (qc q vc vo vm)] h)
set_option maxHeartbeats 2000000 in
theorem r11 (h9:R9 ctx) (h32:R32 ctx) (h33:R33 ctx) (h34:R34 ctx) (h35:R35s ctx) (hnl:∀ l c,(normL l c).length<=l.length) (q:Qr) (vc vo vm:AV) (h:H) (hq:QV h q vc vo vm) (hl1:q.code.length<=3000) (hl2:q.ord.length<=3000) (hl3:q.mat.length<=3000):Sx.Af h (QOut h.nx (normQ q)) (An Tryz.prog ctx N true 11 [.agg (qc q vc vo vm)] h):=by
 rw [e11]
 have hq0:=hq
 obtain ⟨hc,ho,hm⟩:=hq
 obtain ⟨oc1,oc2⟩:=Bc hc
 obtain ⟨oo1,oo2⟩:=Bc ho
 obtain ⟨om1,om2⟩:=Bc hm
 have hn2:=hnl q.mat true
 clear hc ho hm
 replace hq0:=(show Dl _ from hq0)
 replace hnl:=(show Dl _ from hnl)
 repeat' (first|with_reducible (first|apply A3|apply A4|apply A5|apply A6)|(with_reducible (first|apply Cq|apply Cr|apply Cs|apply Ct);(conv=>lhs;simp (disch:=first|exact dA|fail) [lw, *]);with_reducible (first|apply A3|apply A4|apply A5|apply A6|apply Cn|(refine Co (by simp) ?_)|(apply Cp<;>intro hc<;>(try simp only [Ar] at hc)<;>(try (exfalso;omega)))))|(with_reducible (first|apply Cu|apply Cv|apply Cw|apply Cx)<;>intro hc<;>(try simp only [Ar] at hc)<;>(try (exfalso;omega))))
 refine Sx.D0 (h9 q vc vo vm _ (QV.B2 (show QV h q vc vo vm from hq0) E5) hl1 hl2 hl3) fun vv hh ee qq=>?_
 obtain ⟨wc,wo,wm,rfl,qs1,qs2,qs3⟩:=qq
 obtain ⟨pc1,pc2⟩:=Bc qs1.sl
 obtain ⟨po1,po2⟩:=Bc qs2.sl
 obtain ⟨pm1,pm2⟩:=Bc qs3.sl
 have elo:=ee.lo
 have eold:=ee.old
 simp only [Sx.new_nx,Sx.put_nx,Sx.F6,Sx.reLog_nx] at elo eold qs1 qs2 qs3
 repeat' (first|with_reducible (first|apply A3|apply A4|apply A5|apply A6)|(with_reducible (first|apply Cq|apply Cr|apply Cs|apply Ct);(conv=>lhs;simp (disch:=first|exact dA|fail) [lw, *]);with_reducible (first|apply A3|apply A4|apply A5|apply A6|apply Cn|(refine Co (by simp) ?_)|(apply Cp<;>intro hc<;>(try simp only [Ar] at hc)<;>(try (exfalso;omega)))))|(with_reducible (first|apply Cu|apply Cv|apply Cw|apply Cx)<;>intro hc<;>(try simp only [Ar] at hc)<;>(try (exfalso;omega))))
 refine Sx.D0 (h32 false q.code wc _ (Safe.sl (lo:=0) ?_) hl1) fun v8 h8 e8 sf8=>?_
 . (exact Fq)
 obtain ⟨p81,p82⟩:=Bc sf8.sl
 have elo8:=e8.lo
 have eold8:=e8.old
 simp only [Sx.new_nx,Sx.put_nx,Sx.F6,Sx.reLog_nx] at elo8 eold8 sf8
 repeat' (first|with_reducible (first|apply A3|apply A4|apply A5|apply A6)|(with_reducible (first|apply Cq|apply Cr|apply Cs|apply Ct);(conv=>lhs;simp (disch:=first|exact dA|fail) [lw, *]);with_reducible (first|apply A3|apply A4|apply A5|apply A6|apply Cn|(refine Co (by simp) ?_)|(apply Cp<;>intro hc<;>(try simp only [Ar] at hc)<;>(try (exfalso;omega)))))|(with_reducible (first|apply Cu|apply Cv|apply Cw|apply Cx)<;>intro hc<;>(try simp only [Ar] at hc)<;>(try (exfalso;omega))))
 refine Sx.D0 (h32 true q.mat wm _ (Safe.sl (lo:=0) ?_) hl3) fun v13 h13 e13 sf13=>?_
 . (exact Fq)
 obtain ⟨p131,p132⟩:=Bc sf13.sl
 have elo13:=e13.lo
 have eold13:=e13.old
 simp only [Sx.new_nx,Sx.put_nx,Sx.F6,Sx.reLog_nx] at elo13 eold13 sf13
 have hz:matN q.mat=if normL q.mat true=(fixed true).nodes then [] else normL q.mat true:=rfl
 repeat' (first|with_reducible (first|apply A3|apply A4|apply A5|apply A6)|((with_reducible (first|apply Db|apply Dc));exact h34 _ _;intro vv hh ee elo eold qq;(try simp only [Bp] at elo eold);obtain ⟨ww,rfl,qq⟩:=qq;obtain ⟨ob,cw⟩:=qq.ob)|((with_reducible (first|apply Db|apply Dc));exact h35 _ _ _ _ _;intro vv hh ee elo eold qq;(try simp only [Bp] at elo eold);skip)|(with_reducible (first|apply Cq|apply Cr|apply Cs|apply Ct);(conv=>lhs;simp (disch:=first|exact dA|fail) [lw, *]);with_reducible (first|apply A3|apply A4|apply A5|apply A6|apply Cn|(refine Co (by simp) ?_)|(apply Cp<;>intro hc<;>(try simp only [Ar] at hc)<;>(try (exfalso;omega)))))|(with_reducible (first|apply Cu|apply Cv|apply Cw|apply Cx)<;>intro hc<;>(try simp only [Ar] at hc)<;>(try (exfalso;omega))))
 obtain ⟨p341,p342⟩:=Bc sf13.sl
 refine Sx.gv_callQ (h35 (fixed true) (by rw [A2];omega) ww _ (qq.B2 (Sx.A9.refl hh).nl)) fun v19 h19 e19 q19=>?_
 have elo19:=e19.lo
 have eold19:=e19.old
 refine Sx.gv_callQ (h33 (normL q.mat true) (fixed true).nodes v13 v19 _ (Safe.sl (lo:=0) ?_) (Sx.Sl.B2 q19.sl (Sx.A9.refl h19).nl) (by omega) (by rw [B5,A2];omega)) fun v20 h20 e20 q20=>?_
 . (exact Fq)
 subst q20
 have elo20:=e20.lo
 have eold20:=e20.old
 by_cases hk:normL q.mat true=(fixed true).nodes
 . rw [decide_eq_true hk]
   have hz':matN q.mat=[]:=by rw [hz,if_pos hk]
   clear hz hk hnl hq0
   repeat' (first|with_reducible (first|apply A3|apply A4|apply A5|apply A6)|(with_reducible (first|apply Cq|apply Cr|apply Cs|apply Ct);(conv=>lhs;simp (disch:=first|exact dA|fail) [lw, *]);with_reducible (first|apply A3|apply A4|apply A5|apply A6|apply Cn|(refine Co (by simp) ?_)|(apply Cp<;>intro hc<;>(try simp only [Ar] at hc)<;>(try (exfalso;omega)))))|(with_reducible (first|apply Cu|apply Cv|apply Cw|apply Cx)<;>intro hc<;>(try simp only [Ar] at hc)<;>(try (exfalso;omega))))
   refine Sx.Cj ?_ ⟨v8,wo,.Cb,rfl,?_,?_,?_⟩
   . exact Ak
   . (exact Fq)
   . (exact Fq)
   . show FrN _ _ _ (matN q.mat)
     rw [hz']
     exact Safe.nil rfl rfl
 . rw [decide_eq_false hk]
   have hz':matN q.mat=normL q.mat true:=by rw [hz,if_neg hk]
   clear hz hk hnl hq0
   repeat' (first|with_reducible (first|apply A3|apply A4|apply A5|apply A6)|(with_reducible (first|apply Cq|apply Cr|apply Cs|apply Ct);(conv=>lhs;simp (disch:=first|exact dA|fail) [lw, *]);with_reducible (first|apply A3|apply A4|apply A5|apply A6|apply Cn|(refine Co (by simp) ?_)|(apply Cp<;>intro hc<;>(try simp only [Ar] at hc)<;>(try (exfalso;omega)))))|(with_reducible (first|apply Cu|apply Cv|apply Cw|apply Cx)<;>intro hc<;>(try simp only [Ar] at hc)<;>(try (exfalso;omega))))
   refine Sx.Cj ?_ ⟨v8,wo,v13,rfl,?_,?_,?_⟩
   . exact Ak
   . (exact Fq)
   . (exact Fq)
   . show FrN _ _ _ (matN q.mat)
     rw [hz']
     (exact Fq)
end Go.Proofs
