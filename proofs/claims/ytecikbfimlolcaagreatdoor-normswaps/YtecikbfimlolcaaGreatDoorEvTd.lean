/- Expressions that numbers select: operands. -/
import Derived.Test.YtecikbfimlolcaaGreatDoorEvTc
set_option maxRecDepth 100000
set_option linter.unusedSimpArgs false
set_option linter.unusedVariables false
noncomputable section
namespace Go.Proofs
open Go Go.Ev Go.Nm
attribute [local irreducible] Aa Al Af Ad
variable (ctx:Ac) (N:Nat)
theorem Als:∀{e:Nat},e<=2->3<=Sd e/\Sd e<=31
 |0,_=>by decide
 |1,_=>by decide
 |2,_=>by decide
 |e+3,h=>by omega
theorem Tf (t:Tr):t.nodes≠[]:=by
 intro hh
 have h1:=Ao t
 have h2:=size_pos t
 rw [hh] at h1
 simp at h1
 omega
theorem j80 (Fg:R38 ctx) (e:Nat) (hd:e<=2) (tk:Nat) (vl:AV) (L:List Int) (cv:AV) (m:Int) (hm1:-100<=m) (hm2:m<=100) (h:H) (hi:H9 tk vl L h)
 (hO:∀hx,Sx.TG tk vl h hx->Sx.D6 tk vl hx (Se false (Sd e) hx.nx) (ctx.call 80 [.ptr tk 0,cv,.int .i64 (m - 1)] hx))
 (hC:∀hx,Sx.TG tk vl h hx->Sx.D6 tk vl hx (Se true (Sd e) hx.nx) (ctx.call 41 [.ptr tk 0,cv,.int .i64 (m - 1)] hx))
 (j:Int) (hj0:0<=j) (hj6:j<6) (tb:Bool) (htb:tb=true ↔ j<=2) (f:L2) (hx:H) (he:Sx.TG tk vl h hx):
 Sx.Ah Sx.H0 (λv h1=>Sx.TG tk vl h h1/\Se false (Sd (e+1)) h.nx v h1) (AgB ctx N (.ptr tk 0) cv (.int .i64 m) (.int .i64 j) (.int .i64 j) (.bool tb) f hx):=by
 have B6:=hi.at'.lt
 obtain ⟨hs3,hs⟩:=Als hd
 have hT:∀(k:Int) (hx:H),Sx.TG tk vl h hx->k<=9223372036854775807->Sx.D6 tk vl hx (Below k) (ctx.call 38 [.ptr tk 0,.int .i64 k] hx):=λk hx e hk=>
  Fg tk vl L k hx (hi.tg e).at' (hi.tg e).ints hi.av hi.len hk
 rw [AwY]
 cases tb
 . have hj3:3<=j:=by
    rcases Int.lt_or_le 2 j with h1|h1
    . omega
    . have:=htb.2 h1;cases this
   repeat' (first|with_reducible (first|apply A7|apply A8|apply A9|apply Ba)|((with_reducible apply Sx.M5);exact hT _ _ Sx.L5 (by omega);intro vv hh ee E8 Bu qq;(try simp only [C9] at E8 Bu);obtain ⟨jj,rfl,j0,j1⟩:=qq)|(with_reducible (first|apply Cy|apply Cz|apply C0|apply C1);(conv=>lhs;simp (disch:=first|exact dA|fail) [lw, *]);with_reducible (first|apply A7|apply A8|apply A9|apply Ba|apply Cu|(refine Cv (by simp) ?_)|(apply Cw<;>intro hc<;>(try simp only [Bt] at hc)<;>(try (exfalso;omega)))))|(with_reducible (first|apply C2|apply C3|apply C4|apply C5)<;>intro hc<;>(try simp only [Bt] at hc)<;>(try (exfalso;omega))))
   . refine Sx.M5 (hO _ he) λv1 h1 e1 l1 _ q1=>?_
     obtain ⟨t1,y1,s1,n1⟩:=q1
     have Et:=he.trans e1
     repeat' (first|with_reducible (first|apply A7|apply A8|apply A9|apply Ba)|(with_reducible (first|apply Cy|apply Cz|apply C0|apply C1);(conv=>lhs;simp (disch:=first|exact dA|fail) [lw, *]);with_reducible (first|apply A7|apply A8|apply A9|apply Ba|apply Cu|(refine Cv (by simp) ?_)|(apply Cw<;>intro hc<;>(try simp only [Bt] at hc)<;>(try (exfalso;omega)))))|(with_reducible (first|apply C2|apply C3|apply C4|apply C5)<;>intro hc<;>(try simp only [Bt] at hc)<;>(try (exfalso;omega))))
     obtain ⟨v4,h4,p5,p6,p7,p8⟩:=Ut ⟨7,0,[]⟩ Et (n1.Y5 he.lo) (by rw [Ao];omega)
     refine Sx.Ey p5 (zr (Sx.Ed _) ⟨p6,.one 7 t1,.inl ⟨rfl,rfl,y1⟩,by simp only [size,Sd];omega,by simpa [Tr.nodes] using p7⟩)
   . have X4:((jj.toNat:Nat):Int)=jj:=Int.toNat_of_nonneg j0
     have Aq5:Sx.R0 1 (λn:Int=>[.int .i64 n]) (hx.new (.cells [.int .i64 0,.int .i64 1,.int .i64 2,.int .i64 1000000,.int .i64 1000000000] 3 .exact)) (.sl hx.nx 0 5 5 1 true) [0,1,2,1000000,1000000000]:=Sx.Sl.lit (h:=hx) (Sx.Bf _) rfl rfl
     have X6:=he.lo
     have AeA:=Sx.Sl.tg Aq5 ((he.new _).at B6) (λb off len cap z ex hv h0=>by cases hv;omega) ee
     obtain ⟨n,hn⟩:∃n,[(0:Int),1,2,1000000,1000000000][jj.toNat]?=some n:=⟨_,List.getElem?_eq_getElem (by simp;omega)⟩
     obtain ⟨b,o,el⟩:=Sx.R0.elem (f:=λn:Int=>[AV.int .i64 n]) (s:=1) (λ_=>rfl) AeA hn
     have x1:=el.ia
     rw [X4] at x1
     have x2:=el.part 0 _ rfl
     rw [Nat.add_zero] at x2
     clear el Aq5 AeA hn
     repeat' (first|with_reducible (first|apply A7|apply A8|apply A9|apply Ba)|(with_reducible (first|apply Cy|apply Cz|apply C0|apply C1);(conv=>lhs;simp (disch:=first|exact dA|fail) [lw, *,x1,x2]);with_reducible (first|apply A7|apply A8|apply A9|apply Ba|apply Cu|(refine Cv (by simp) ?_)|(apply Cw<;>intro hc<;>(try simp only [Bt] at hc)<;>(try (exfalso;omega)))))|(with_reducible (first|apply C2|apply C3|apply C4|apply C5)<;>intro hc<;>(try simp only [Bt] at hc)<;>(try (exfalso;omega))))
     have t1:Sx.TG tk vl h hh:=Sx.L5
     have:=t1.lo
     exact zr (Sx.Ed _) ⟨t1.new _,.leaf ⟨1,n,[]⟩,⟨rfl,.inl ⟨rfl,rfl⟩⟩,by simp only [size,Sd];omega,Wl [⟨1,n,[]⟩] 1 rfl (Sx.Bf _) rfl this⟩
   . refine Sx.M5 (hC _ he) λv1 h1 e1 l1 _ q1=>?_
     obtain ⟨t1,y1,s1,n1⟩:=q1
     have Et:=he.trans e1
     repeat' (first|with_reducible (first|apply A7|apply A8|apply A9|apply Ba)|(with_reducible (first|apply Cy|apply Cz|apply C0|apply C1);(conv=>lhs;simp (disch:=first|exact dA|fail) [lw, *]);with_reducible (first|apply A7|apply A8|apply A9|apply Ba|apply Cu|(refine Cv (by simp) ?_)|(apply Cw<;>intro hc<;>(try simp only [Bt] at hc)<;>(try (exfalso;omega)))))|(with_reducible (first|apply C2|apply C3|apply C4|apply C5)<;>intro hc<;>(try simp only [Bt] at hc)<;>(try (exfalso;omega))))
     refine Sx.M5 (hO _ Et) λv2 h2 e2 l2 _ q2=>?_
     obtain ⟨t2,y2,s2,n2⟩:=q2
     have Cs:=Et.trans e2
     obtain ⟨v3,h3,p1,p2,p3,p4⟩:=Z8 Cs ((n1.Y5 he.lo).tg (Et.at B6) B6 e2) n2.sl (Tf t2) (by rw [Ao,Ao];omega)
     refine Sx.Ey p1 ?_
     clear p1
     repeat' (first|with_reducible (first|apply A7|apply A8|apply A9|apply Ba)|(with_reducible (first|apply Cy|apply Cz|apply C0|apply C1);(conv=>lhs;simp (disch:=first|exact dA|fail) [lw, *]);with_reducible (first|apply A7|apply A8|apply A9|apply Ba|apply Cu|(refine Cv (by simp) ?_)|(apply Cw<;>intro hc<;>(try simp only [Bt] at hc)<;>(try (exfalso;omega)))))|(with_reducible (first|apply C2|apply C3|apply C4|apply C5)<;>intro hc<;>(try simp only [Bt] at hc)<;>(try (exfalso;omega))))
     refine Sx.M5 (hO _ p2) λv4 h4 e4 l4 _ q4=>?_
     obtain ⟨t4,y4,s4,n4⟩:=q4
     have he4:=p2.trans e4
     obtain ⟨v5,h5,p5,p6,p7,p8⟩:=Z8 he4 (p3.tg (p2.at B6) B6 e4) n4.sl (Tf t4) (by rw [List.length_append,Ao,Ao,Ao];omega)
     refine Sx.Ey p5 ?_
     clear p5
     repeat' (first|with_reducible (first|apply A7|apply A8|apply A9|apply Ba)|(with_reducible (first|apply Cy|apply Cz|apply C0|apply C1);(conv=>lhs;simp (disch:=first|exact dA|fail) [lw, *]);with_reducible (first|apply A7|apply A8|apply A9|apply Ba|apply Cu|(refine Cv (by simp) ?_)|(apply Cw<;>intro hc<;>(try simp only [Bt] at hc)<;>(try (exfalso;omega)))))|(with_reducible (first|apply C2|apply C3|apply C4|apply C5)<;>intro hc<;>(try simp only [Bt] at hc)<;>(try (exfalso;omega))))
     obtain ⟨v6,h6,r5,r6,r7,r8⟩:=Ut ⟨8,0,[]⟩ p6 p7 (by rw [List.length_append,List.length_append,Ao,Ao,Ao];omega)
     refine Sx.Ey r5 (zr (Sx.Ed _) ⟨r6,.three t1 t2 t4,⟨rfl,y1,y2,y4⟩,by simp only [size,Sd];omega,by simpa [Tr.nodes] using r7⟩)
 . have hj2:j<=2:=htb.1 rfl
   repeat' (first|with_reducible (first|apply A7|apply A8|apply A9|apply Ba)|(with_reducible (first|apply Cy|apply Cz|apply C0|apply C1);(conv=>lhs;simp (disch:=first|exact dA|fail) [lw, *]);with_reducible (first|apply A7|apply A8|apply A9|apply Ba|apply Cu|(refine Cv (by simp) ?_)|(apply Cw<;>intro hc<;>(try simp only [Bt] at hc)<;>(try (exfalso;omega)))))|(with_reducible (first|apply C2|apply C3|apply C4|apply C5)<;>intro hc<;>(try simp only [Bt] at hc)<;>(try (exfalso;omega))))
   refine Sx.M5 (hO _ he) λv1 h1 e1 l1 _ q1=>?_
   obtain ⟨t1,y1,s1,n1⟩:=q1
   have Et:=he.trans e1
   repeat' (first|with_reducible (first|apply A7|apply A8|apply A9|apply Ba)|(with_reducible (first|apply Cy|apply Cz|apply C0|apply C1);(conv=>lhs;simp (disch:=first|exact dA|fail) [lw, *]);with_reducible (first|apply A7|apply A8|apply A9|apply Ba|apply Cu|(refine Cv (by simp) ?_)|(apply Cw<;>intro hc<;>(try simp only [Bt] at hc)<;>(try (exfalso;omega)))))|(with_reducible (first|apply C2|apply C3|apply C4|apply C5)<;>intro hc<;>(try simp only [Bt] at hc)<;>(try (exfalso;omega))))
   refine Sx.M5 (hO _ Et) λv2 h2 e2 l2 _ q2=>?_
   obtain ⟨t2,y2,s2,n2⟩:=q2
   have Cs:=Et.trans e2
   obtain ⟨v3,h3,p1,p2,p3,p4⟩:=Z8 Cs ((n1.Y5 he.lo).tg (Et.at B6) B6 e2) n2.sl (Tf t2) (by rw [Ao,Ao];omega)
   refine Sx.Ey p1 ?_
   clear p1
   repeat' (first|with_reducible (first|apply A7|apply A8|apply A9|apply Ba)|(with_reducible (first|apply Cy|apply Cz|apply C0|apply C1);(conv=>lhs;simp (disch:=first|exact dA|fail) [lw, *]);with_reducible (first|apply A7|apply A8|apply A9|apply Ba|apply Cu|(refine Cv (by simp) ?_)|(apply Cw<;>intro hc<;>(try simp only [Bt] at hc)<;>(try (exfalso;omega)))))|(with_reducible (first|apply C2|apply C3|apply C4|apply C5)<;>intro hc<;>(try simp only [Bt] at hc)<;>(try (exfalso;omega))))
   obtain ⟨v4,h4,p5,p6,p7,p8⟩:=Ut ⟨4+j,0,[]⟩ p2 p3 (by rw [List.length_append,Ao,Ao];omega)
   refine Sx.Ey p5 (zr (Sx.Ed _) ⟨p6,.two (4+j) t1 t2,.inl ⟨rfl,by omega,y1,y2⟩,by simp only [size,Sd];omega,by simpa [Tr.nodes] using p7⟩)
theorem r80 (Fg:R38 ctx) (d:Nat) (hd:d<=3) (ih:∀e,d=e+1->R80 ctx e/\R41 ctx e) (tk:Nat) (vl:AV) (L:List Int) (cv:AV) (A1:List Cl) (m:Int) (h:H) (hm:(d:Int)=m) (hi:H9 tk vl L h) (X3:Hu tk h cv A1) (Hr:A1≠[]) (hl:A1.length<=30):
 Sx.D6 tk vl h (Se false (Sd d) h.nx) (Ay Tryz.prog ctx N false 80 [.ptr tk 0,cv,.int .i64 m] h):=by
 refine Sx.Qk ?_
 rw [e80]
 have ht:=hi.at'
 have B6:=ht.lt
 have hlp:0<A1.length:=List.length_pos_iff.2 Hr
 have hT:∀(k:Int) (hx:H),Sx.TG tk vl h hx->k<=9223372036854775807->Sx.D6 tk vl hx (Below k) (ctx.call 38 [.ptr tk 0,.int .i64 k] hx):=λk hx e hk=>
  Fg tk vl L k hx (hi.tg e).at' (hi.tg e).ints hi.av hi.len hk
 have hlen:∀hh,Fo cv hh=.ok (.int .i64 (A1.length:Int)) hh:=λ_=>X3.sl.Gs
 repeat' (first|with_reducible (first|apply A7|apply A8|apply A9|apply Ba)|((with_reducible apply Sx.M5);exact hT _ _ Sx.L5 (by omega);intro vv hh ee E8 Bu qq;(try simp only [C9] at E8 Bu);obtain ⟨jj,rfl,j0,j1⟩:=qq)|(with_reducible (first|apply Cy|apply Cz|apply C0|apply C1);(conv=>lhs;simp (disch:=first|exact dA|fail) [lw, *,hlen]);with_reducible (first|apply A7|apply A8|apply A9|apply Ba|apply Cu|(refine Cv (by simp) ?_)|(apply Cw<;>intro hc<;>(try simp only [Bt] at hc)<;>(try (exfalso;omega)))))|(with_reducible (first|apply C2|apply C3|apply C4|apply C5)<;>intro hc<;>(try simp only [Bt] at hc)<;>(try (exfalso;omega))))
 have X4:((jj.toNat:Nat):Int)=jj:=Int.toNat_of_nonneg j0
 obtain ⟨c,hci⟩:∃s,A1[jj.toNat]?=some s:=⟨_,List.getElem?_eq_getElem (by omega)⟩
 obtain ⟨b,o,el⟩:=Sx.R0.elem (f:=Hx) (s:=4) (λ_=>rfl) (X3.tg ht ee).sl hci
 have hcc:=X3.ok c (List.mem_of_getElem? hci)
 have x1:=el.ia
 rw [X4] at x1
 have x2:=el.all
 obtain ⟨o1,o2⟩:=B2 hcc.words
 clear el X4 hlen hci
 repeat' (first|with_reducible (first|apply A7|apply A8|apply A9|apply Ba)|((with_reducible apply Sx.M5);exact hT _ _ Sx.L5 (by omega);intro vv hh ee E8 Bu qq;(try simp only [C9] at E8 Bu);obtain ⟨jj,rfl,j0,j1⟩:=qq)|(with_reducible (first|apply Cy|apply Cz|apply C0|apply C1);(conv=>lhs;simp (disch:=first|exact dA|fail) [lw, *,x1,x2]);with_reducible (first|apply A7|apply A8|apply A9|apply Ba|apply Cu|(refine Cv (by simp) ?_)|(apply Cw<;>intro hc<;>(try simp only [Bt] at hc)<;>(try (exfalso;omega)))))|(with_reducible (first|apply C2|apply C3|apply C4|apply C5)<;>intro hc<;>(try simp only [Bt] at hc)<;>(try (exfalso;omega))))
 rotate_left 4
 iterate 3
  . obtain ⟨e,rfl⟩:∃e,d=e+1:=⟨d - 1,by omega⟩
    obtain ⟨i1,i2⟩:=ih e rfl
    exact j80 ctx N Fg e (by omega) tk vl L cv m (by omega) (by omega) h hi (λhx e=>i1 tk vl L cv A1 _ hx (by omega) (hi.tg e) (X3.tg ht e) Hr hl) (λhx e=>i2 tk vl L cv A1 _ hx (by omega) (hi.tg e) (X3.tg ht e) Hr hl) _ (by omega) (by omega) _ (by simp;omega) _ _ Sx.L5
 all_goals (have t1:Sx.TG tk vl h hh:=Sx.L5;have:=t1.lo)
 all_goals (have hs3:3<=Sd d:=by cases d with|zero=>decide|succ e=>exact Nat.le_trans (Als (e:=e) (by omega)).1 (by simp only [Sd];omega))
 . exact zr (Sx.Ed _) ⟨t1.new _,.leaf ⟨1,jj,[]⟩,⟨rfl,.inl ⟨rfl,rfl⟩⟩,by simp only [size];omega,Wl [⟨1,jj,[]⟩] 1 rfl (Sx.Bf _) rfl this⟩
 . exact zr (Sx.Ed _) ⟨t1.new _,.leaf ⟨2,0,c.name⟩,⟨rfl,.inr ⟨rfl,rfl⟩⟩,by simp only [size];omega,Wl [⟨2,0,c.name⟩] 1 rfl (Sx.Bf _) rfl this⟩
 . exact zr (Sx.Ed _) ⟨t1.new _,.leaf ⟨1,jj,[]⟩,⟨rfl,.inl ⟨rfl,rfl⟩⟩,by simp only [size];omega,Wl [⟨1,jj,[]⟩] 1 rfl (Sx.Bf _) rfl this⟩
 . exact zr (Sx.Ed _) ⟨t1.new _,.leaf ⟨2,0,c.name⟩,⟨rfl,.inr ⟨rfl,rfl⟩⟩,by simp only [size];omega,Wl [⟨2,0,c.name⟩] 1 rfl (Sx.Bf _) rfl this⟩
end Go.Proofs
