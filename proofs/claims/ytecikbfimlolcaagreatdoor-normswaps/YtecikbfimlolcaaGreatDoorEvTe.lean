/- Expressions that numbers select: conditions. -/
import Derived.Test.YtecikbfimlolcaaGreatDoorEvTd
set_option maxRecDepth 100000
set_option linter.unusedSimpArgs false
set_option linter.unusedVariables false
noncomputable section
namespace Go.Proofs
open Go Go.Ev Go.Nm
attribute [local irreducible] Aa Al Af Ad
variable (ctx:Ac) (N:Nat)
theorem j41 (Fg:R38 ctx) (e:Nat) (hd:e<=2) (tk:Nat) (vl:AV) (L:List Int) (cv:AV) (m:Int) (hm1:-100<=m) (hm2:m<=100) (h:H) (hi:H9 tk vl L h)
 (hO:∀hx,Sx.TG tk vl h hx->Sx.D6 tk vl hx (Se false (Sd e) hx.nx) (ctx.call 80 [.ptr tk 0,cv,.int .i64 (m - 1)] hx))
 (hC:∀hx,Sx.TG tk vl h hx->Sx.D6 tk vl hx (Se true (Sd e) hx.nx) (ctx.call 41 [.ptr tk 0,cv,.int .i64 (m - 1)] hx))
 (j:Int) (hj0:0<=j) (hj6:j<4) (tb:Bool) (htb:tb=true ↔ j<=1) (f:L2) (hx:H) (he:Sx.TG tk vl h hx):
 Sx.Ah Sx.H0 (λv h1=>Sx.TG tk vl h h1/\Se true (Sd (e+1)) h.nx v h1) (AkY ctx N (.ptr tk 0) cv (.int .i64 m) (.int .i64 j) (.int .i64 j) (.bool tb) f hx):=by
 have B6:=hi.at'.lt
 obtain ⟨hs3,hs⟩:=Als hd
 have hT:∀(k:Int) (hx:H),Sx.TG tk vl h hx->k<=9223372036854775807->Sx.D6 tk vl hx (Below k) (ctx.call 38 [.ptr tk 0,.int .i64 k] hx):=λk hx e hk=>
  Fg tk vl L k hx (hi.tg e).at' (hi.tg e).ints hi.av hi.len hk
 rw [AwP]
 cases tb
 . have hj3:2<=j:=by
    rcases Int.lt_or_le 1 j with h1|h1
    . omega
    . have:=htb.2 h1;cases this
   repeat' (first|with_reducible (first|apply A7|apply A8|apply A9|apply Ba)|(with_reducible (first|apply Cy|apply Cz|apply C0|apply C1);(conv=>lhs;simp (disch:=first|exact dA|fail) [lw, *]);with_reducible (first|apply A7|apply A8|apply A9|apply Ba|apply Cu|(refine Cv (by simp) ?_)|(apply Cw<;>intro hc<;>(try simp only [Bt] at hc)<;>(try (exfalso;omega)))))|(with_reducible (first|apply C2|apply C3|apply C4|apply C5)<;>intro hc<;>(try simp only [Bt] at hc)<;>(try (exfalso;omega))))
   . refine Sx.M5 (hC _ he) λv1 h1 e1 l1 _ q1=>?_
     obtain ⟨t1,y1,s1,n1⟩:=q1
     have Et:=he.trans e1
     repeat' (first|with_reducible (first|apply A7|apply A8|apply A9|apply Ba)|(with_reducible (first|apply Cy|apply Cz|apply C0|apply C1);(conv=>lhs;simp (disch:=first|exact dA|fail) [lw, *]);with_reducible (first|apply A7|apply A8|apply A9|apply Ba|apply Cu|(refine Cv (by simp) ?_)|(apply Cw<;>intro hc<;>(try simp only [Bt] at hc)<;>(try (exfalso;omega)))))|(with_reducible (first|apply C2|apply C3|apply C4|apply C5)<;>intro hc<;>(try simp only [Bt] at hc)<;>(try (exfalso;omega))))
     obtain ⟨v4,h4,p5,p6,p7,p8⟩:=Ut ⟨17,0,[]⟩ Et (n1.Y5 he.lo) (by rw [Ao];omega)
     refine Sx.Ey p5 (zr (Sx.Ed _) ⟨p6,.one 17 t1,.inr ⟨rfl,rfl,y1⟩,by simp only [size,Sd];omega,by simpa [Tr.nodes] using p7⟩)
   . refine Sx.M5 (hO _ he) λv1 h1 e1 l1 _ q1=>?_
     obtain ⟨t1,y1,s1,n1⟩:=q1
     have Et:=he.trans e1
     repeat' (first|with_reducible (first|apply A7|apply A8|apply A9|apply Ba)|(with_reducible (first|apply Cy|apply Cz|apply C0|apply C1);(conv=>lhs;simp (disch:=first|exact dA|fail) [lw, *]);with_reducible (first|apply A7|apply A8|apply A9|apply Ba|apply Cu|(refine Cv (by simp) ?_)|(apply Cw<;>intro hc<;>(try simp only [Bt] at hc)<;>(try (exfalso;omega)))))|(with_reducible (first|apply C2|apply C3|apply C4|apply C5)<;>intro hc<;>(try simp only [Bt] at hc)<;>(try (exfalso;omega))))
     refine Sx.M5 (hO _ Et) λv2 h2 e2 l2 _ q2=>?_
     obtain ⟨t2,y2,s2,n2⟩:=q2
     have Cs:=Et.trans e2
     obtain ⟨v3,h3,p1,p2,p3,p4⟩:=Z8 Cs ((n1.Y5 he.lo).tg (Et.at B6) B6 e2) n2.sl (Tf t2) (by rw [Ao,Ao];omega)
     refine Sx.Ey p1 ?_
     clear p1
     repeat' (first|with_reducible (first|apply A7|apply A8|apply A9|apply Ba)|((with_reducible apply Sx.M5);exact hT _ _ Sx.L5 (by omega);intro vv hh ee E8 Bu qq;(try simp only [C9] at E8 Bu);obtain ⟨jj,rfl,j0,j1⟩:=qq)|(with_reducible (first|apply Cy|apply Cz|apply C0|apply C1);(conv=>lhs;simp (disch:=first|exact dA|fail) [lw, *]);with_reducible (first|apply A7|apply A8|apply A9|apply Ba|apply Cu|(refine Cv (by simp) ?_)|(apply Cw<;>intro hc<;>(try simp only [Bt] at hc)<;>(try (exfalso;omega)))))|(with_reducible (first|apply C2|apply C3|apply C4|apply C5)<;>intro hc<;>(try simp only [Bt] at hc)<;>(try (exfalso;omega))))
     have he4:=p2.trans ee
     obtain ⟨v4,h4,p5,p6,p7,p8⟩:=Ut ⟨9+jj,0,[]⟩ he4 (p3.tg (p2.at B6) B6 ee) (by rw [List.length_append,Ao,Ao];omega)
     refine Sx.Ey p5 (zr (Sx.Ed _) ⟨p6,.two (9+jj) t1 t2,.inr (.inl ⟨rfl,by omega,y1,y2⟩),by simp only [size,Sd];omega,by simpa [Tr.nodes] using p7⟩)
 . have hj2:j<=1:=htb.1 rfl
   repeat' (first|with_reducible (first|apply A7|apply A8|apply A9|apply Ba)|(with_reducible (first|apply Cy|apply Cz|apply C0|apply C1);(conv=>lhs;simp (disch:=first|exact dA|fail) [lw, *]);with_reducible (first|apply A7|apply A8|apply A9|apply Ba|apply Cu|(refine Cv (by simp) ?_)|(apply Cw<;>intro hc<;>(try simp only [Bt] at hc)<;>(try (exfalso;omega)))))|(with_reducible (first|apply C2|apply C3|apply C4|apply C5)<;>intro hc<;>(try simp only [Bt] at hc)<;>(try (exfalso;omega))))
   refine Sx.M5 (hC _ he) λv1 h1 e1 l1 _ q1=>?_
   obtain ⟨t1,y1,s1,n1⟩:=q1
   have Et:=he.trans e1
   repeat' (first|with_reducible (first|apply A7|apply A8|apply A9|apply Ba)|(with_reducible (first|apply Cy|apply Cz|apply C0|apply C1);(conv=>lhs;simp (disch:=first|exact dA|fail) [lw, *]);with_reducible (first|apply A7|apply A8|apply A9|apply Ba|apply Cu|(refine Cv (by simp) ?_)|(apply Cw<;>intro hc<;>(try simp only [Bt] at hc)<;>(try (exfalso;omega)))))|(with_reducible (first|apply C2|apply C3|apply C4|apply C5)<;>intro hc<;>(try simp only [Bt] at hc)<;>(try (exfalso;omega))))
   refine Sx.M5 (hC _ Et) λv2 h2 e2 l2 _ q2=>?_
   obtain ⟨t2,y2,s2,n2⟩:=q2
   have Cs:=Et.trans e2
   obtain ⟨v3,h3,p1,p2,p3,p4⟩:=Z8 Cs ((n1.Y5 he.lo).tg (Et.at B6) B6 e2) n2.sl (Tf t2) (by rw [Ao,Ao];omega)
   refine Sx.Ey p1 ?_
   clear p1
   repeat' (first|with_reducible (first|apply A7|apply A8|apply A9|apply Ba)|(with_reducible (first|apply Cy|apply Cz|apply C0|apply C1);(conv=>lhs;simp (disch:=first|exact dA|fail) [lw, *]);with_reducible (first|apply A7|apply A8|apply A9|apply Ba|apply Cu|(refine Cv (by simp) ?_)|(apply Cw<;>intro hc<;>(try simp only [Bt] at hc)<;>(try (exfalso;omega)))))|(with_reducible (first|apply C2|apply C3|apply C4|apply C5)<;>intro hc<;>(try simp only [Bt] at hc)<;>(try (exfalso;omega))))
   obtain ⟨v4,h4,p5,p6,p7,p8⟩:=Ut ⟨15+j,0,[]⟩ p2 p3 (by rw [List.length_append,Ao,Ao];omega)
   refine Sx.Ey p5 (zr (Sx.Ed _) ⟨p6,.two (15+j) t1 t2,.inr (.inr (.inr ⟨rfl,by omega,y1,y2⟩)),by simp only [size,Sd];omega,by simpa [Tr.nodes] using p7⟩)
theorem Atu {tk:Nat} {vl cv:AV} {h:H} {A1:List Cl} {i:Int} (hc:Hu tk h cv A1) (ht:Sx.H8 h tk vl) (i0:0<=i) (i1:i<(A1.length:Int)):
 ∃c b o,c∈A1/\(∀hh,Gc 4 cv (.int .i64 i) hh=.ok (.ptr b o) hh)/\∀hx,Sx.TG tk vl h hx->Ae (some (some 4)) (.ptr b o) hx=.ok (.agg (Hx c)) hx:=by
 have X4:((i.toNat:Nat):Int)=i:=Int.toNat_of_nonneg i0
 obtain ⟨c,hci⟩:∃s,A1[i.toNat]?=some s:=⟨_,List.getElem?_eq_getElem (by omega)⟩
 obtain ⟨b,o,el⟩:=Sx.R0.elem (f:=Hx) (s:=4) (λ_=>rfl) hc.sl hci
 have x1:=el.ia
 rw [X4] at x1
 refine ⟨c,b,o,List.mem_of_getElem? hci,x1,λhx e=>?_⟩
 obtain ⟨b2,o2,el2⟩:=Sx.R0.elem (f:=Hx) (s:=4) (λ_=>rfl) (hc.tg ht e).sl hci
 have x2:=el2.ia h
 rw [X4,x1] at x2
 cases x2
 exact el2.all hx (Sx.Bi.refl hx)
set_option maxHeartbeats 2000000 in
theorem r41 (Fg:R38 ctx) (h79:R79 ctx) (d:Nat) (hd:d<=3) (ih:∀e,d=e+1->R80 ctx e/\R41 ctx e) (tk:Nat) (vl:AV) (L:List Int) (cv:AV) (A1:List Cl) (m:Int) (h:H) (hm:(d:Int)=m) (hi:H9 tk vl L h) (X3:Hu tk h cv A1) (Hr:A1≠[]) (hl:A1.length<=30):
 Sx.D6 tk vl h (Se true (Sd d) h.nx) (Ay Tryz.prog ctx N false 41 [.ptr tk 0,cv,.int .i64 m] h):=by
 refine Sx.Qk ?_
 rw [e41]
 have ht:=hi.at'
 have B6:=ht.lt
 have hlp:0<A1.length:=List.length_pos_iff.2 Hr
 have hT:∀(k:Int) (hx:H),Sx.TG tk vl h hx->k<=9223372036854775807->Sx.D6 tk vl hx (Below k) (ctx.call 38 [.ptr tk 0,.int .i64 k] hx):=λk hx e hk=>
  Fg tk vl L k hx (hi.tg e).at' (hi.tg e).ints hi.av hi.len hk
 have hlen:∀hh,Fo cv hh=.ok (.int .i64 (A1.length:Int)) hh:=λ_=>X3.sl.Gs
 refine Sx.Ey (hlen _) ?_
 refine Sx.M5 (hT _ _ (Sx.TG.refl ht) (by omega)) λv1 hx e1 l1 _ q1=>?_
 obtain ⟨i,rfl,i0,i1⟩:=q1
 obtain ⟨c,b,o,Hq,x1,hL⟩:=Atu X3 ht i0 (by omega)
 have hcc:=X3.ok c Hq
 obtain ⟨o1,o2⟩:=B2 hcc.words
 have hwl:∀hh,Fo c.w hh=.ok (.int .i64 (c.ws.length:Int)) hh:=λ_=>hcc.words.Gs
 refine Sx.M5 (hT 8 _ e1 (by omega)) λv8 h8 e8 l8 BfJ q8=>?_
 obtain ⟨k8,rfl,k80,k81⟩:=q8
 repeat' (first|with_reducible (first|apply A7|apply A8|apply A9|apply Ba)|((with_reducible apply Sx.M5);exact hT _ _ Sx.L5 (by omega);intro vv hh ee E8 Bu qq;(try simp only [C9] at E8 Bu);obtain ⟨jj,rfl,j0,j1⟩:=qq)|(with_reducible (first|apply Cy|apply Cz|apply C0|apply C1);(conv=>lhs;simp (disch:=first|exact dA|fail) [lw, *,x1]);with_reducible (first|apply A7|apply A8|apply A9|apply Ba|apply Cu|(refine Cv (by simp) ?_)|(apply Cw<;>intro hc<;>(try simp only [Bt] at hc)<;>(try (exfalso;omega)))))|(with_reducible (first|apply C2|apply C3|apply C4|apply C5)<;>intro hc<;>(try simp only [Bt] at hc)<;>(try (exfalso;omega))))
 rotate_left 2
 iterate 2
  . obtain ⟨e,rfl⟩:∃e,d=e+1:=⟨d - 1,by omega⟩
    obtain ⟨i3,i2⟩:=ih e rfl
    exact j41 ctx N Fg e (by omega) tk vl L cv m (by omega) (by omega) h hi (λhx e=>i3 tk vl L cv A1 _ hx (by omega) (hi.tg e) (X3.tg ht e) Hr hl) (λhx e=>i2 tk vl L cv A1 _ hx (by omega) (hi.tg e) (X3.tg ht e) Hr hl) _ (by omega) (by omega) _ (by simp;omega) _ _ Sx.L5
 all_goals (have hw5:=hcc.Mu)
 all_goals (have hs3:3<=Sd d:=by cases d with|zero=>decide|succ e=>exact Nat.le_trans (Als (e:=e) (by omega)).1 (by simp only [Sd];omega))
 iterate 2
  . have x2:=hL h8 Sx.L5
    repeat' (first|with_reducible (first|apply A7|apply A8|apply A9|apply Ba)|(with_reducible (first|apply Cy|apply Cz|apply C0|apply C1);(conv=>lhs;simp (disch:=first|exact dA|fail) [lw, *,x2]);with_reducible (first|apply A7|apply A8|apply A9|apply Ba|apply Cu|(refine Cv (by simp) ?_)|(apply Cw<;>intro hc<;>(try simp only [Bt] at hc)<;>(try (exfalso;omega)))))|(with_reducible (first|apply C2|apply C3|apply C4|apply C5)<;>intro hc<;>(try simp only [Bt] at hc)<;>(try (exfalso;omega))))
    refine Sx.M5 (hT 6 _ Sx.L5 (by omega)) λv2 hy e2 l2 Aae q2=>?_
    obtain ⟨p,rfl,p0,p1⟩:=q2
    simp only [C9] at l2 Aae
    obtain ⟨w,hw,hw9⟩:∃w,E1 .i64 (9+(9+p).tmod 2)=w/\(w=9\/w=10):=by
     have h1:=Int.tmod_nonneg 2 (show 0<=9+p by omega)
     have h2:=Int.tmod_lt_of_pos (9+p) (show (0:Int)<2 by omega)
     exact ⟨9+(9+p).tmod 2,Sx.Cr _ (by omega) (by omega),by omega⟩
    repeat' (first|with_reducible (first|apply A7|apply A8|apply A9|apply Ba)|((with_reducible apply Sx.M5);exact hT _ _ Sx.L5 (by omega);intro vv hh ee E8 Bu qq;(try simp only [C9] at E8 Bu);obtain ⟨jj,rfl,j0,j1⟩:=qq)|((with_reducible (first|apply zc1|apply zc2));exact h79 _ _ _ _ _ (X3.tg ht Sx.L5) (by omega) i0 (by omega);intro vv hh ee E8 Bu qq;(first|(have eqt:=Sx.Ai.quiet ee;try simp only [C9] at E8 Bu eqt)|(try simp only [C9] at E8 Bu));obtain ⟨bb,rfl,A1F⟩:=qq)|(with_reducible (first|apply Cy|apply Cz|apply C0|apply C1);(conv=>lhs;simp (disch:=first|exact dA|fail) [lw, *,hwl,hw]);with_reducible (first|apply A7|apply A8|apply A9|apply Ba|apply Cu|(refine Cv (by simp) ?_)|(apply Cw<;>intro hc<;>(try simp only [Bt] at hc)<;>(try (exfalso;omega)))))|(with_reducible (first|apply C2|apply C3|apply C4|apply C5)<;>intro hc<;>(try simp only [Bt] at hc)<;>(try (exfalso;omega)))|(refine Sx.B8 ?_ ?_;(focus (simp (disch:=first|decide|omega|(simp only [C9];omega)) [Sx.Aw,Sx.Am,Sx.Ar,Sx.Ax, *];done));(try simp (disch:=first|exact Ce|fail) only [Sx.Aw,Sx.Am,Sx.Bx,Sx.Ap,Sx.At,List.nil_append,List.cons_append,Sx.B9,Sx.Dp,Sx.Dn,C9,Sx.Ca, *])))
    . have X4:((jj.toNat:Nat):Int)=jj:=Int.toNat_of_nonneg j0
      obtain ⟨wd,hwd⟩:∃s,c.ws[jj.toNat]?=some s:=⟨_,List.getElem?_eq_getElem (by omega)⟩
      obtain ⟨b3,o3,el⟩:=Sx.R0.elem (f:=Aeb) (s:=1) (λ_=>rfl) (Sx.Sl.tg hcc.words ht hcc.av (show Sx.TG tk vl h hh from Sx.L5)) hwd
      have x3:=el.ia
      rw [X4] at x3
      have x4:=el.part 0 _ rfl
      rw [Nat.add_zero] at x4
      clear el hwd
      repeat' (first|with_reducible (first|apply A7|apply A8|apply A9|apply Ba)|(with_reducible (first|apply Cy|apply Cz|apply C0|apply C1);(conv=>lhs;simp (disch:=first|exact dA|fail) [lw, *,x3,x4]);with_reducible (first|apply A7|apply A8|apply A9|apply Ba|apply Cu|(refine Cv (by simp) ?_)|(apply Cw<;>intro hc<;>(try simp only [Bt] at hc)<;>(try (exfalso;omega)))))|(with_reducible (first|apply C2|apply C3|apply C4|apply C5)<;>intro hc<;>(try simp only [Bt] at hc)<;>(try (exfalso;omega)))|(refine Sx.B8 ?_ ?_;(focus (simp (disch:=first|decide|omega|(simp only [C9];omega)) [Sx.Aw,Sx.Am,Sx.Ar,Sx.Ax, *];done));(try simp (disch:=first|exact Ce|fail) only [Sx.Aw,Sx.Am,Sx.Bx,Sx.Ap,Sx.At,List.nil_append,List.cons_append,Sx.B9,Sx.Dp,Sx.Dn,C9,Sx.Ca, *])))
      refine Sx.Pu tk h.nx ?_ λLz hLz=>?_
      . simp only [List.forall_mem_cons,List.not_mem_nil,false_imp_iff,implies_true,and_true]
        repeat' (refine And.intro ?_ ?_)
        all_goals first|(left;simp;done)|(left;rfl)|(refine .inr ⟨λx hx=>.inl (Sx.TG.wrote (by assumption) x hx),?_⟩;(repeat' (refine And.intro ?_ ?_));all_goals first|(exact Sx.Ar ..)|(refine Sx.Ax _ _ _ _ _ _ _ _ _ _ _ _ ?_;decide)|exact Sx.Ci ..|exact Sx.Dk (tk:=tk) (Sx.TG.wrote (by assumption)) Ce (.inl rfl)|exact Sx.Dk (tk:=tk) (Sx.TG.wrote (by assumption)) Ce (.inr ⟨_,rfl,by omega,congrArg B5 (show _=AO.cells (Hx c) 96 .exact from N4)⟩)|exact Sx.Dk (tk:=tk) (Sx.TG.wrote (by assumption)) Ce (.inr ⟨_,rfl,by omega,congrArg B5 (show _=AO.cells [.int .i64 (w),.int .i64 0,.str []] 32 .exact from N4)⟩))
      . repeat' (first|with_reducible (first|apply A7|apply A8|apply A9|apply Ba)|(with_reducible (first|apply Cy|apply Cz|apply C0|apply C1);(conv=>lhs;simp (disch:=first|exact dA|fail) [lw, *]);with_reducible (first|apply A7|apply A8|apply A9|apply Ba|apply Cu|(refine Cv (by simp) ?_)|(apply Cw<;>intro hc<;>(try simp only [Bt] at hc)<;>(try (exfalso;omega)))))|(with_reducible (first|apply C2|apply C3|apply C4|apply C5)<;>intro hc<;>(try simp only [Bt] at hc)<;>(try (exfalso;omega))))
        have t1:Sx.TG tk vl h hh:=Sx.L5
        have tl:=t1.lo
        exact zr (Sx.Ed _) ⟨Sx.L5,.two w (.leaf ⟨2,0,c.name⟩) (.leaf ⟨3,0,wd⟩),.inr (.inr (.inl ⟨rfl,hw9,⟨rfl,rfl⟩,rfl,rfl⟩)),by simp only [size];omega,Wl (h:=hh) [⟨2,0,c.name⟩,⟨3,0,wd⟩,⟨w,0,[]⟩] 3 rfl (Sx.Bf (h:=Ab hh) _) rfl tl⟩
    iterate 3
     . skip
       refine Sx.Pu tk h.nx ?_ λLz hLz=>?_
       . simp only [List.forall_mem_cons,List.not_mem_nil,false_imp_iff,implies_true,and_true]
         repeat' (refine And.intro ?_ ?_)
         all_goals first|(left;simp;done)|(left;rfl)|(refine .inr ⟨λx hx=>.inl (Sx.TG.wrote (by assumption) x hx),?_⟩;(repeat' (refine And.intro ?_ ?_));all_goals first|(exact Sx.Ar ..)|(refine Sx.Ax _ _ _ _ _ _ _ _ _ _ _ _ ?_;decide)|exact Sx.Ci ..|exact Sx.Dk (tk:=tk) (Sx.TG.wrote (by assumption)) Ce (.inl rfl)|exact Sx.Dk (tk:=tk) (Sx.TG.wrote (by assumption)) Ce (.inr ⟨_,rfl,by omega,congrArg B5 (show _=AO.cells (Hx c) 96 .exact from N4)⟩)|exact Sx.Dk (tk:=tk) (Sx.TG.wrote (by assumption)) Ce (.inr ⟨_,rfl,by omega,congrArg B5 (show _=AO.cells [.int .i64 (9+p),.int .i64 0,.str []] 32 .exact from N4)⟩))
       . repeat' (first|with_reducible (first|apply A7|apply A8|apply A9|apply Ba)|(with_reducible (first|apply Cy|apply Cz|apply C0|apply C1);(conv=>lhs;simp (disch:=first|exact dA|fail) [lw, *]);with_reducible (first|apply A7|apply A8|apply A9|apply Ba|apply Cu|(refine Cv (by simp) ?_)|(apply Cw<;>intro hc<;>(try simp only [Bt] at hc)<;>(try (exfalso;omega)))))|(with_reducible (first|apply C2|apply C3|apply C4|apply C5)<;>intro hc<;>(try simp only [Bt] at hc)<;>(try (exfalso;omega))))
         have t1:Sx.TG tk vl h hh:=Sx.L5
         have tl:=t1.lo
         exact zr (Sx.Ed _) ⟨Sx.L5,.two (9+p) (.leaf ⟨2,0,c.name⟩) (.leaf ⟨1,jj,[]⟩),.inr (.inl ⟨rfl,by omega,⟨rfl,.inr ⟨rfl,rfl⟩⟩,⟨rfl,.inl ⟨rfl,rfl⟩⟩⟩),by simp only [size];omega,Wl (h:=hh) [⟨2,0,c.name⟩,⟨1,jj,[]⟩,⟨9+p,0,[]⟩] 3 rfl (Sx.Bf (h:=Ab hh) _) rfl tl⟩
end Go.Proofs
