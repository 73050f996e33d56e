/- Queries: comparison of equal queries, large queries. -/
import Derived.Test.YtecikbfimlolcaaGreatDoorEvRfb
set_option maxRecDepth 100000
set_option linter.unusedSimpArgs false
set_option linter.unusedVariables false
namespace Go.Proofs
open Go Go.Ev Go.Nm
attribute [local irreducible] Aa Aj Ah Ac
variable (ctx:Ae) (N:Nat)
def R12:Prop:=∀ (q:Qr) (vc vo vm wc wo wm:AV) (h:H),QV h q vc vo vm->QV h q wc wo wm->q.code.length<=3000->q.ord.length<=3000->q.mat.length<=3000->Sx.Af h (fun r _=>r=.bool true) (ctx.call 12 [.agg (qc q vc vo vm),.agg (qc q wc wo wm)] h)
theorem neqt (h:H):Al Tryz.prog .neq 4 false (.bool true) (.bool true) h=.ok (.bool false) h:=by kernel_rfl
theorem neqf (h:H):Al Tryz.prog .neq 4 false (.bool false) (.bool false) h=.ok (.bool false) h:=by kernel_rfl
theorem neqb (b:Bool) (h:H):Al Tryz.prog .neq 4 false (.bool b) (.bool b) h=.ok (.bool false) h:=by cases b;exact neqf h;exact neqt h
theorem R33.same {ctx:Ae} (h33:R33 ctx) (l:List Nd) (v w:AV) (h:H) (hv:NdS h v l) (hw:NdS h w l) (hl:l.length<=3000):Sx.Af h (fun r _=>r=.bool true) (ctx.call 33 [v,w] h):=by
 have:=h33 l l v w h hv hw hl hl
 rwa [decide_eq_true (rfl:l=l)] at this
theorem R36.same {ctx:Ae} (h36:R36 ctx) (l:List (Int × Int)) (v w:AV) (h:H) (hv:OkS h v l) (hw:OkS h w l) (hl:l.length<=3000):Sx.Af h (fun r _=>r=.bool true) (ctx.call 36 [v,w] h):=by
 have:=h36 l l v w h hv hw hl hl
 rwa [decide_eq_true (rfl:l=l)] at this
set_option maxHeartbeats 2000000 in
theorem r12 (h33:R33 ctx) (h36:R36 ctx) (q:Qr) (vc vo vm wc wo wm:AV) (h:H) (hq:QV h q vc vo vm) (hq':QV h q wc wo wm) (hl1:q.code.length<=3000) (hl2:q.ord.length<=3000) (hl3:q.mat.length<=3000):Sx.Af h (fun r _=>r=.bool true) (An Tryz.prog ctx N true 12 [.agg (qc q vc vo vm),.agg (qc q wc wo wm)] h):=by
 rw [e12]
 obtain ⟨hc,ho,hm⟩:=hq
 obtain ⟨hc',ho',hm'⟩:=hq'
 obtain ⟨oc1,oc2⟩:=Bc hc
 obtain ⟨oo1,oo2⟩:=Bc ho
 obtain ⟨om1,om2⟩:=Bc hm
 obtain ⟨pc1,pc2⟩:=Bc hc'
 obtain ⟨po1,po2⟩:=Bc ho'
 obtain ⟨pm1,pm2⟩:=Bc hm'
 obtain ⟨c0,code,c2,c3,c4,c5,s6,c7,ord,c9,b10,s11,c12,s13,s14,s15,c16,mat,s18,c19⟩:=q
 simp only at hc ho hm hc' ho' hm' hl1 hl2 hl3
 replace hc:=(show Dl _ from hc)
 replace ho:=(show Dl _ from ho)
 replace hm:=(show Dl _ from hm)
 replace hc':=(show Dl _ from hc')
 replace ho':=(show Dl _ from ho')
 replace hm':=(show Dl _ from hm')
 repeat' (first|with_reducible (first|apply A3|apply A4|apply A5|apply A6)|((with_reducible (first|apply Db|apply Dc));exact h33.same code vc wc _ (Sx.Sl.B2 hc E5) (Sx.Sl.B2 hc' E5) hl1;intro vv hh ee elo eold qq;(try simp only [Bp] at elo eold);subst qq)|((with_reducible (first|apply Db|apply Dc));exact h33.same mat vm wm _ (Sx.Sl.B2 hm E5) (Sx.Sl.B2 hm' E5) hl3;intro vv hh ee elo eold qq;(try simp only [Bp] at elo eold);subst qq)|((with_reducible (first|apply Db|apply Dc));exact h36.same ord vo wo _ (Sx.Sl.B2 ho E5) (Sx.Sl.B2 ho' E5) hl2;intro vv hh ee elo eold qq;(try simp only [Bp] at elo eold);subst qq)|(with_reducible (first|apply Cq|apply Cr|apply Cs|apply Ct);(conv=>lhs;simp (disch:=first|exact dA|fail) [lw, *,neqb]);with_reducible (first|apply A3|apply A4|apply A5|apply A6|apply Cn|(refine Co (by simp) ?_)|(apply Cp<;>intro hc<;>(try simp only [Ar] at hc)<;>(try (exfalso;omega)))))|(with_reducible (first|apply ze1|apply ze2);(conv=>lhs;simp only [zw,Bool.not_true]))|(with_reducible (first|apply Cu|apply Cv|apply Cw|apply Cx)<;>intro hc<;>(try simp only [Ar] at hc)<;>(try (exfalso;omega))))
 refine Sx.Cj ?_ ?_
 . exact Ak
 . rfl
end Go.Proofs
