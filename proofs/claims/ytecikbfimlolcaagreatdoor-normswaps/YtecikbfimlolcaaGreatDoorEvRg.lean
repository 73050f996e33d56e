/- Queries: comparison of equal queries, large queries. -/
import Derived.Test.YtecikbfimlolcaaGreatDoorEvRfb
set_option maxRecDepth 100000
set_option linter.unusedSimpArgs false
set_option linter.unusedVariables false
noncomputable section
namespace Go.Proofs
open Go Go.Ev Go.Nm
attribute [local irreducible] Aa Al Af Ad
variable (ctx:Ac) (N:Nat)
def R12:Prop:=∀(q:Qr) (vc vo vm wc wo wm:AV) (h:H),QV h q vc vo vm->QV h q wc wo wm->q.code.length<=3000->q.ord.length<=3000->q.E9.length<=3000->Sx.Ah h (λr _=>r=.bool true) (ctx.call 12 [.agg (qc q vc vo vm),.agg (qc q wc wo wm)] h)
theorem A9P (h:H):Aj Tryz.prog .neq 4 false (.bool true) (.bool true) h=.ok (.bool false) h:=by kernel_rfl
theorem A9O (h:H):Aj Tryz.prog .neq 4 false (.bool false) (.bool false) h=.ok (.bool false) h:=by kernel_rfl
theorem A9N (b:Bool) (h:H):Aj Tryz.prog .neq 4 false (.bool b) (.bool b) h=.ok (.bool false) h:=by cases b;exact A9O h;exact A9P h
theorem R33.same {ctx:Ac} (W3:R33 ctx) (l:List Nd) (v w:AV) (h:H) (hv:Ue h v l) (hw:Ue h w l) (hl:l.length<=3000):Sx.Ah h (λr _=>r=.bool true) (ctx.call 33 [v,w] h):=by
 have:=W3 l l v w h hv hw hl hl
 rwa [decide_eq_true (rfl:l=l)] at this
theorem R36.same {ctx:Ac} (Zz:R36 ctx) (l:List (Int × Int)) (v w:AV) (h:H) (hv:OkS h v l) (hw:OkS h w l) (hl:l.length<=3000):Sx.Ah h (λr _=>r=.bool true) (ctx.call 36 [v,w] h):=by
 have:=Zz l l v w h hv hw hl hl
 rwa [decide_eq_true (rfl:l=l)] at this
set_option maxHeartbeats 2000000 in
theorem r12 (W3:R33 ctx) (Zz:R36 ctx) (q:Qr) (vc vo vm wc wo wm:AV) (h:H) (hq:QV h q vc vo vm) (Zb:QV h q wc wo wm) (Vs:q.code.length<=3000) (P4:q.ord.length<=3000) (hl3:q.E9.length<=3000):Sx.Ah h (λr _=>r=.bool true) (Ay Tryz.prog ctx N true 12 [.agg (qc q vc vo vm),.agg (qc q wc wo wm)] h):=by
 rw [e12]
 obtain ⟨hc,ho,hm⟩:=hq
 obtain ⟨Wh,ho',hm'⟩:=Zb
 obtain ⟨oc1,oc2⟩:=B2 hc
 obtain ⟨oo1,oo2⟩:=B2 ho
 obtain ⟨om1,om2⟩:=B2 hm
 obtain ⟨pc1,pc2⟩:=B2 Wh
 obtain ⟨po1,po2⟩:=B2 ho'
 obtain ⟨pm1,pm2⟩:=B2 hm'
 obtain ⟨c0,code,c2,c3,c4,c5,s6,c7,ord,c9,Wz,Uw,W0,s13,s14,s15,c16,E9,s18,c19⟩:=q
 simp only at hc ho hm Wh ho' hm' Vs P4 hl3
 replace hc:=(show F5 _ from hc)
 replace ho:=(show F5 _ from ho)
 replace hm:=(show F5 _ from hm)
 replace Wh:=(show F5 _ from Wh)
 replace ho':=(show F5 _ from ho')
 replace hm':=(show F5 _ from hm')
 repeat' (first|with_reducible (first|apply A7|apply A8|apply A9|apply Ba)|((with_reducible (first|apply zc1|apply zc2));exact W3.same code vc wc _ (Sx.Sl.By hc M0) (Sx.Sl.By Wh M0) Vs;intro vv hh ee E8 Bu qq;(try simp only [C9] at E8 Bu);subst qq)|((with_reducible (first|apply zc1|apply zc2));exact W3.same E9 vm wm _ (Sx.Sl.By hm M0) (Sx.Sl.By hm' M0) hl3;intro vv hh ee E8 Bu qq;(try simp only [C9] at E8 Bu);subst qq)|((with_reducible (first|apply zc1|apply zc2));exact Zz.same ord vo wo _ (Sx.Sl.By ho M0) (Sx.Sl.By ho' M0) P4;intro vv hh ee E8 Bu qq;(try simp only [C9] at E8 Bu);subst qq)|(with_reducible (first|apply Cy|apply Cz|apply C0|apply C1);(conv=>lhs;simp (disch:=first|exact dA|fail) [lw, *,A9N]);with_reducible (first|apply A7|apply A8|apply A9|apply Ba|apply Cu|(refine Cv (by simp) ?_)|apply Cx))|(with_reducible (first|apply Kl|apply Km);(conv=>lhs;simp only [zw,Bool.not_true]))|(with_reducible (first|apply C2|apply C3|apply C4|apply C5|apply Cw)<;>intro hc<;>(try simp only [Bt] at hc)<;>(try (exfalso;omega))))
 refine Sx.Lo ?_ ?_
 . exact Ex
 . rfl
end Go.Proofs
