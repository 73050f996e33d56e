/- Queries that numbers select: joined. -/
import Derived.Test.YtecikbfimlolcaaGreatDoorEvTc
set_option linter.all false
set_option maxRecDepth 100000
noncomputable section
namespace Go.Proofs
open Go Go.Ev Go.Nm Tryz Go.Ev.Sx
attribute [local irreducible] Aa Al Af Ad
variable (ctx:Ac) (N:Nat)
theorem Als:∀{e:Nat},e<=2->3<=Sd e/\Sd e<=31
 |0,_=>by decide
 |1,_=>by decide
 |2,_=>by decide
 |e+3,h=>by omega
theorem Tf (t:Tr):t.nodes≠[]:=by
 intro hh
 have h1:=Ao t
 have h2:=size_pos t
 rw [hh] at h1
 simp at h1
 omega
theorem j80 (Fg:R38 ctx) {D:Dom} (e:Nat) (hd:e<=2) (tk:Nat) (vl:AV) (L:List Int) (cv:AV) (m:Int) (hm1:-100<=m) (hm2:m<=100) (h:H) (hi:H9 tk vl L h)
 (hO:∀hx,TG tk vl h hx->D6 tk vl hx (Se D false (Sd e) hx.nx) (ctx.call 80 [.ptr tk 0,cv,.int .i64 (m - 1)] hx))
 (hC:∀hx,TG tk vl h hx->D6 tk vl hx (Se D true (Sd e) hx.nx) (ctx.call 41 [.ptr tk 0,cv,.int .i64 (m - 1)] hx))
 (j:Int) (hj0:0<=j) (hj6:j<6) (tb:Bool) (htb:tb=true ↔ j<=2) (f:L2) (hx:H) (he:TG tk vl h hx):
 Ah H0 (λv h1=>TG tk vl h h1/\Se D false (Sd (e+1)) h.nx v h1) (AgB ctx N (.ptr tk 0) cv (.int .i64 m) (.int .i64 j) (.int .i64 j) (.bool tb) f hx):=by
 have B6:=hi.at'.lt
 obtain ⟨hs3,hs⟩:=Als hd
 have hT:∀(k:Int) (hx:H),TG tk vl h hx->k<=9223372036854775807->D6 tk vl hx (Below k) (ctx.call 38 [.ptr tk 0,.int .i64 k] hx):=λk hx e hk=>
  Fg tk vl L k hx (hi.tg e).at' (hi.tg e).ints hi.av hi.len hk
 rw [AwY]
 cases tb
 . have hj3:3<=j:=by
    rcases Int.lt_or_le 2 j with h1|h1
    . omega
    . have:=htb.2 h1;cases this
   (repeat' (first|refine wk ?_|((with_reducible apply M5);exact hT _ _ L5 om;intro vv hh ee E8 Bu qq;(try simp only [C9] at E8 Bu);obtain ⟨jj,rfl,j0,j1⟩:=qq)|(refine zqq ?_ ?_<;>intro hc<;>(try (exfalso;omega)))|fail))
   . refine M5 (hO _ he) λv1 h1 e1 l1 _ q1=>?_
     obtain ⟨t1,y1,s1,n1⟩:=q1
     have Et:=he.trans e1
     refine wk ?_
     obtain ⟨v4,h4,p5,p6,p7,p8⟩:=Ut ⟨7,0,[]⟩ Et (n1.Y5 he.lo) (by rw [Ao];omega)
     refine Ey p5 (zr (Ed _) ⟨p6,.one 7 t1,.inl ⟨rfl,rfl,y1⟩,by simp only [size,Sd];omega,by simpa [Tr.nodes] using p7⟩)
   . have X4:((jj.toNat:Nat):Int)=jj:=Int.toNat_of_nonneg j0
     have Aq5:R0 1 (λn:Int=>[.int .i64 n]) (hx.new (.cells [.int .i64 0,.int .i64 1,.int .i64 2,.int .i64 1000000,.int .i64 1000000000] 3 .exact)) (.sl hx.nx 0 5 5 1 true) [0,1,2,1000000,1000000000]:=Sl.lit (h:=hx) (Bf _) rfl rfl
     have X6:=he.lo
     have AeA:=Sl.tg Aq5 ((he.new _).at B6) (λb off len cap z ex hv h0=>by cases hv;omega) ee
     obtain ⟨n,hn⟩:∃n,[(0:Int),1,2,1000000,1000000000][jj.toNat]?=some n:=⟨_,List.getElem?_eq_getElem (by simp;omega)⟩
     obtain ⟨b,o,el⟩:=R0.elem (f:=λn:Int=>[AV.int .i64 n]) (s:=1) (λ_=>rfl) AeA hn
     have x1:=el.ia
     rw [X4] at x1
     have x2:=el.part 0 _ rfl
     rw [Nat.add_zero] at x2
     have Zo:0<=n/\n<=1000000000:=by
      have:=List.mem_of_getElem? hn
      simp at this
      omega
     clear el Aq5 AeA hn
     refine wk ?_
     have t1:TG tk vl h hh:=L5
     have:=t1.lo
     exact zr (Ed _) ⟨t1.new _,.leaf ⟨1,n,[]⟩,Acz Zo.1 Zo.2,by simp only [size,Sd];omega,Wl [⟨1,n,[]⟩] 1 rfl (Bf _) rfl this⟩
   . refine M5 (hC _ he) λv1 h1 e1 l1 _ q1=>?_
     obtain ⟨t1,y1,s1,n1⟩:=q1
     have Et:=he.trans e1
     refine wk ?_
     refine M5 (hO _ Et) λv2 h2 e2 l2 _ q2=>?_
     obtain ⟨t2,y2,s2,n2⟩:=q2
     have Cs:=Et.trans e2
     obtain ⟨v3,h3,p1,p2,p3,p4⟩:=Z8 Cs ((n1.Y5 he.lo).tg (Et.at B6) B6 e2) n2.sl (Tf t2) (by rw [Ao,Ao];omega)
     refine Ey p1 ?_
     clear p1
     refine wk ?_
     refine M5 (hO _ p2) λv4 h4 e4 l4 _ q4=>?_
     obtain ⟨t4,y4,s4,n4⟩:=q4
     have he4:=p2.trans e4
     obtain ⟨v5,h5,p5,p6,p7,p8⟩:=Z8 he4 (p3.tg (p2.at B6) B6 e4) n4.sl (Tf t4) (by rw [List.length_append,Ao,Ao,Ao];omega)
     refine Ey p5 ?_
     clear p5
     refine wk ?_
     obtain ⟨v6,h6,r5,r6,r7,r8⟩:=Ut ⟨8,0,[]⟩ p6 p7 (by rw [List.length_append,List.length_append,Ao,Ao,Ao];omega)
     refine Ey r5 (zr (Ed _) ⟨r6,.three t1 t2 t4,⟨rfl,y1,y2,y4⟩,by simp only [size,Sd];omega,by simpa [Tr.nodes] using r7⟩)
 . have hj2:j<=2:=htb.1 rfl
   refine wk ?_
   refine M5 (hO _ he) λv1 h1 e1 l1 _ q1=>?_
   obtain ⟨t1,y1,s1,n1⟩:=q1
   have Et:=he.trans e1
   refine wk ?_
   refine M5 (hO _ Et) λv2 h2 e2 l2 _ q2=>?_
   obtain ⟨t2,y2,s2,n2⟩:=q2
   have Cs:=Et.trans e2
   obtain ⟨v3,h3,p1,p2,p3,p4⟩:=Z8 Cs ((n1.Y5 he.lo).tg (Et.at B6) B6 e2) n2.sl (Tf t2) (by rw [Ao,Ao];omega)
   refine Ey p1 ?_
   clear p1
   refine wk ?_
   obtain ⟨v4,h4,p5,p6,p7,p8⟩:=Ut ⟨4+j,0,[]⟩ p2 p3 (by rw [List.length_append,Ao,Ao];omega)
   refine Ey p5 (zr (Ed _) ⟨p6,.two (4+j) t1 t2,.inl ⟨rfl,by omega,y1,y2⟩,by simp only [size,Sd];omega,by simpa [Tr.nodes] using p7⟩)
theorem r80 (Fg:R38 ctx) (d:Nat) (hd:d<=3) (ih:∀e,d=e+1->R80 ctx e/\R41 ctx e) (tk:Nat) (vl:AV) (L:List Int) (cv:AV) (A1:List Cl) (m:Int) (h:H) (hm:(d:Int)=m) (hi:H9 tk vl L h) (X3:Hu tk h cv A1) (Hr:A1≠[]) (hl:A1.length<=30):
 D6 tk vl h (Se (AaR A1) false (Sd d) h.nx) (Ay prog ctx N false 80 [.ptr tk 0,cv,.int .i64 m] h):=by
 refine Qk ?_
 rw [e80]
 have ht:=hi.at'
 have B6:=ht.lt
 have hlp:0<A1.length:=List.length_pos_iff.2 Hr
 have hT:∀(k:Int) (hx:H),TG tk vl h hx->k<=9223372036854775807->D6 tk vl hx (Below k) (ctx.call 38 [.ptr tk 0,.int .i64 k] hx):=λk hx e hk=>
  Fg tk vl L k hx (hi.tg e).at' (hi.tg e).ints hi.av hi.len hk
 have hlen:∀hh,Fo cv hh=.ok (.int .i64 (A1.length:Int)) hh:=λ_=>X3.sl.Gs
 repeat' (first|with_reducible (first|apply A7|apply A8|apply A9|apply Ba)|((with_reducible apply M5);exact hT _ _ L5 om;intro vv hh ee E8 Bu qq;(try simp only [C9] at E8 Bu);obtain ⟨jj,rfl,j0,j1⟩:=qq)|(with_reducible (first|apply Cy|apply Cz|apply C0|apply C1);(conv=>lhs;simp (disch:=first|exact dA|fail) [lw, *,hlen]);with_reducible (first|apply A7|apply A8|apply A9|apply Ba|apply Cu|(refine Cv (by simp) ?_)|(apply Cw<;>intro hc<;>(try simp only [Bt] at hc)<;>(try (exfalso;omega)))))|(with_reducible (first|apply C2|apply C3|apply C4|apply C5)<;>intro hc<;>(try simp only [Bt] at hc)<;>(try (exfalso;omega))))
 have X4:((jj.toNat:Nat):Int)=jj:=Int.toNat_of_nonneg j0
 obtain ⟨c,hci⟩:∃s,A1[jj.toNat]?=some s:=⟨_,List.getElem?_eq_getElem om⟩
 obtain ⟨b,o,el⟩:=R0.elem (f:=Hx) (s:=4) (λ_=>rfl) (X3.tg ht ee).sl hci
 have Hq:=List.mem_of_getElem? hci
 have O0:=X3.ok c Hq
 have x1:=el.ia
 rw [X4] at x1
 have x2:=el.all
 obtain ⟨o1,o2⟩:=B2 O0.words
 clear el X4 hlen hci
 repeat' (first|with_reducible (first|apply A7|apply A8|apply A9|apply Ba)|((with_reducible apply M5);exact hT _ _ L5 om;intro vv hh ee E8 Bu qq;(try simp only [C9] at E8 Bu);obtain ⟨jj,rfl,j0,j1⟩:=qq)|(with_reducible (first|apply Cy|apply Cz|apply C0|apply C1);(conv=>lhs;simp (disch:=first|exact dA|fail) [lw, *,x1,x2]);with_reducible (first|apply A7|apply A8|apply A9|apply Ba|apply Cu|(refine Cv (by simp) ?_)|(apply Cw<;>intro hc<;>(try simp only [Bt] at hc)<;>(try (exfalso;omega)))))|(with_reducible (first|apply C2|apply C3|apply C4|apply C5)<;>intro hc<;>(try simp only [Bt] at hc)<;>(try (exfalso;omega))))
 rotate_left 4
 iterate 3
  . obtain ⟨e,rfl⟩:∃e,d=e+1:=⟨d - 1,by omega⟩
    obtain ⟨i1,i2⟩:=ih e rfl
    exact j80 ctx N Fg e om tk vl L cv m om om h hi (λhx e=>i1 tk vl L cv A1 _ hx om (hi.tg e) (X3.tg ht e) Hr hl) (λhx e=>i2 tk vl L cv A1 _ hx om (hi.tg e) (X3.tg ht e) Hr hl) _ om om _ (by simp;omega) _ _ L5
 all_goals (have t1:TG tk vl h hh:=L5;have:=t1.lo)
 all_goals (have hs3:3<=Sd d:=by cases d with|zero=>decide|succ e=>exact Nat.le_trans (Als (e:=e) om).1 (by simp only [Sd];omega))
 . exact zr (Ed _) ⟨t1.new _,.leaf ⟨1,jj,[]⟩,Acz om om,by simp only [size];omega,Wl [⟨1,jj,[]⟩] 1 rfl (Bf _) rfl this⟩
 . exact zr (Ed _) ⟨t1.new _,.leaf ⟨2,0,c.name⟩,⟨rfl,.inr ⟨rfl,rfl,c,Hq,rfl⟩⟩,by simp only [size];omega,Wl [⟨2,0,c.name⟩] 1 rfl (Bf _) rfl this⟩
 . exact zr (Ed _) ⟨t1.new _,.leaf ⟨1,jj,[]⟩,Acz om om,by simp only [size];omega,Wl [⟨1,jj,[]⟩] 1 rfl (Bf _) rfl this⟩
 . exact zr (Ed _) ⟨t1.new _,.leaf ⟨2,0,c.name⟩,⟨rfl,.inr ⟨rfl,rfl,c,Hq,rfl⟩⟩,by simp only [size];omega,Wl [⟨2,0,c.name⟩] 1 rfl (Bf _) rfl this⟩
theorem j41 (Fg:R38 ctx) {D:Dom} (e:Nat) (hd:e<=2) (tk:Nat) (vl:AV) (L:List Int) (cv:AV) (m:Int) (hm1:-100<=m) (hm2:m<=100) (h:H) (hi:H9 tk vl L h)
 (hO:∀hx,TG tk vl h hx->D6 tk vl hx (Se D false (Sd e) hx.nx) (ctx.call 80 [.ptr tk 0,cv,.int .i64 (m - 1)] hx))
 (hC:∀hx,TG tk vl h hx->D6 tk vl hx (Se D true (Sd e) hx.nx) (ctx.call 41 [.ptr tk 0,cv,.int .i64 (m - 1)] hx))
 (j:Int) (hj0:0<=j) (hj6:j<4) (tb:Bool) (htb:tb=true ↔ j<=1) (f:L2) (hx:H) (he:TG tk vl h hx):
 Ah H0 (λv h1=>TG tk vl h h1/\Se D true (Sd (e+1)) h.nx v h1) (AkY ctx N (.ptr tk 0) cv (.int .i64 m) (.int .i64 j) (.int .i64 j) (.bool tb) f hx):=by
 have B6:=hi.at'.lt
 obtain ⟨hs3,hs⟩:=Als hd
 have hT:∀(k:Int) (hx:H),TG tk vl h hx->k<=9223372036854775807->D6 tk vl hx (Below k) (ctx.call 38 [.ptr tk 0,.int .i64 k] hx):=λk hx e hk=>
  Fg tk vl L k hx (hi.tg e).at' (hi.tg e).ints hi.av hi.len hk
 rw [AwP]
 cases tb
 . have hj3:2<=j:=by
    rcases Int.lt_or_le 1 j with h1|h1
    . omega
    . have:=htb.2 h1;cases this
   repeat' (first|with_reducible (first|apply A7|apply A8|apply A9|apply Ba)|(with_reducible (first|apply Cy|apply Cz|apply C0|apply C1);(conv=>lhs;simp (disch:=first|exact dA|fail) [lw, *]);with_reducible (first|apply A7|apply A8|apply A9|apply Ba|apply Cu|(refine Cv (by simp) ?_)|(apply Cw<;>intro hc<;>(try simp only [Bt] at hc)<;>(try (exfalso;omega)))))|(with_reducible (first|apply C2|apply C3|apply C4|apply C5)<;>intro hc<;>(try simp only [Bt] at hc)<;>(try (exfalso;omega))))
   . refine M5 (hC _ he) λv1 h1 e1 l1 _ q1=>?_
     obtain ⟨t1,y1,s1,n1⟩:=q1
     have Et:=he.trans e1
     repeat' (first|with_reducible (first|apply A7|apply A8|apply A9|apply Ba)|(with_reducible (first|apply Cy|apply Cz|apply C0|apply C1);(conv=>lhs;simp (disch:=first|exact dA|fail) [lw, *]);with_reducible (first|apply A7|apply A8|apply A9|apply Ba|apply Cu|(refine Cv (by simp) ?_)|(apply Cw<;>intro hc<;>(try simp only [Bt] at hc)<;>(try (exfalso;omega)))))|(with_reducible (first|apply C2|apply C3|apply C4|apply C5)<;>intro hc<;>(try simp only [Bt] at hc)<;>(try (exfalso;omega))))
     obtain ⟨v4,h4,p5,p6,p7,p8⟩:=Ut ⟨17,0,[]⟩ Et (n1.Y5 he.lo) (by rw [Ao];omega)
     refine Ey p5 (zr (Ed _) ⟨p6,.one 17 t1,.inr ⟨rfl,rfl,y1⟩,by simp only [size,Sd];omega,by simpa [Tr.nodes] using p7⟩)
   . refine M5 (hO _ he) λv1 h1 e1 l1 _ q1=>?_
     obtain ⟨t1,y1,s1,n1⟩:=q1
     have Et:=he.trans e1
     repeat' (first|with_reducible (first|apply A7|apply A8|apply A9|apply Ba)|(with_reducible (first|apply Cy|apply Cz|apply C0|apply C1);(conv=>lhs;simp (disch:=first|exact dA|fail) [lw, *]);with_reducible (first|apply A7|apply A8|apply A9|apply Ba|apply Cu|(refine Cv (by simp) ?_)|(apply Cw<;>intro hc<;>(try simp only [Bt] at hc)<;>(try (exfalso;omega)))))|(with_reducible (first|apply C2|apply C3|apply C4|apply C5)<;>intro hc<;>(try simp only [Bt] at hc)<;>(try (exfalso;omega))))
     refine M5 (hO _ Et) λv2 h2 e2 l2 _ q2=>?_
     obtain ⟨t2,y2,s2,n2⟩:=q2
     have Cs:=Et.trans e2
     obtain ⟨v3,h3,p1,p2,p3,p4⟩:=Z8 Cs ((n1.Y5 he.lo).tg (Et.at B6) B6 e2) n2.sl (Tf t2) (by rw [Ao,Ao];omega)
     refine Ey p1 ?_
     clear p1
     repeat' (first|with_reducible (first|apply A7|apply A8|apply A9|apply Ba)|((with_reducible apply M5);exact hT _ _ L5 om;intro vv hh ee E8 Bu qq;(try simp only [C9] at E8 Bu);obtain ⟨jj,rfl,j0,j1⟩:=qq)|(with_reducible (first|apply Cy|apply Cz|apply C0|apply C1);(conv=>lhs;simp (disch:=first|exact dA|fail) [lw, *]);with_reducible (first|apply A7|apply A8|apply A9|apply Ba|apply Cu|(refine Cv (by simp) ?_)|(apply Cw<;>intro hc<;>(try simp only [Bt] at hc)<;>(try (exfalso;omega)))))|(with_reducible (first|apply C2|apply C3|apply C4|apply C5)<;>intro hc<;>(try simp only [Bt] at hc)<;>(try (exfalso;omega))))
     have he4:=p2.trans ee
     obtain ⟨v4,h4,p5,p6,p7,p8⟩:=Ut ⟨9+jj,0,[]⟩ he4 (p3.tg (p2.at B6) B6 ee) (by rw [List.length_append,Ao,Ao];omega)
     refine Ey p5 (zr (Ed _) ⟨p6,.two (9+jj) t1 t2,.inr (.inl ⟨rfl,by omega,y1,y2⟩),by simp only [size,Sd];omega,by simpa [Tr.nodes] using p7⟩)
 . have hj2:j<=1:=htb.1 rfl
   repeat' (first|with_reducible (first|apply A7|apply A8|apply A9|apply Ba)|(with_reducible (first|apply Cy|apply Cz|apply C0|apply C1);(conv=>lhs;simp (disch:=first|exact dA|fail) [lw, *]);with_reducible (first|apply A7|apply A8|apply A9|apply Ba|apply Cu|(refine Cv (by simp) ?_)|(apply Cw<;>intro hc<;>(try simp only [Bt] at hc)<;>(try (exfalso;omega)))))|(with_reducible (first|apply C2|apply C3|apply C4|apply C5)<;>intro hc<;>(try simp only [Bt] at hc)<;>(try (exfalso;omega))))
   refine M5 (hC _ he) λv1 h1 e1 l1 _ q1=>?_
   obtain ⟨t1,y1,s1,n1⟩:=q1
   have Et:=he.trans e1
   repeat' (first|with_reducible (first|apply A7|apply A8|apply A9|apply Ba)|(with_reducible (first|apply Cy|apply Cz|apply C0|apply C1);(conv=>lhs;simp (disch:=first|exact dA|fail) [lw, *]);with_reducible (first|apply A7|apply A8|apply A9|apply Ba|apply Cu|(refine Cv (by simp) ?_)|(apply Cw<;>intro hc<;>(try simp only [Bt] at hc)<;>(try (exfalso;omega)))))|(with_reducible (first|apply C2|apply C3|apply C4|apply C5)<;>intro hc<;>(try simp only [Bt] at hc)<;>(try (exfalso;omega))))
   refine M5 (hC _ Et) λv2 h2 e2 l2 _ q2=>?_
   obtain ⟨t2,y2,s2,n2⟩:=q2
   have Cs:=Et.trans e2
   obtain ⟨v3,h3,p1,p2,p3,p4⟩:=Z8 Cs ((n1.Y5 he.lo).tg (Et.at B6) B6 e2) n2.sl (Tf t2) (by rw [Ao,Ao];omega)
   refine Ey p1 ?_
   clear p1
   repeat' (first|with_reducible (first|apply A7|apply A8|apply A9|apply Ba)|(with_reducible (first|apply Cy|apply Cz|apply C0|apply C1);(conv=>lhs;simp (disch:=first|exact dA|fail) [lw, *]);with_reducible (first|apply A7|apply A8|apply A9|apply Ba|apply Cu|(refine Cv (by simp) ?_)|(apply Cw<;>intro hc<;>(try simp only [Bt] at hc)<;>(try (exfalso;omega)))))|(with_reducible (first|apply C2|apply C3|apply C4|apply C5)<;>intro hc<;>(try simp only [Bt] at hc)<;>(try (exfalso;omega))))
   obtain ⟨v4,h4,p5,p6,p7,p8⟩:=Ut ⟨15+j,0,[]⟩ p2 p3 (by rw [List.length_append,Ao,Ao];omega)
   refine Ey p5 (zr (Ed _) ⟨p6,.two (15+j) t1 t2,.inr (.inr (.inr ⟨rfl,by omega,y1,y2⟩)),by simp only [size,Sd];omega,by simpa [Tr.nodes] using p7⟩)
theorem Atu {tk:Nat} {vl cv:AV} {h:H} {A1:List Cl} {i:Int} (hc:Hu tk h cv A1) (ht:H8 h tk vl) (i0:0<=i) (i1:i<(A1.length:Int)):
 ∃c b o,c∈A1/\(∀hh,Gc 4 cv (.int .i64 i) hh=.ok (.ptr b o) hh)/\∀hx,TG tk vl h hx->Ae (some (some 4)) (.ptr b o) hx=.ok (.agg (Hx c)) hx:=by
 have X4:((i.toNat:Nat):Int)=i:=Int.toNat_of_nonneg i0
 obtain ⟨c,hci⟩:∃s,A1[i.toNat]?=some s:=⟨_,List.getElem?_eq_getElem om⟩
 obtain ⟨b,o,el⟩:=R0.elem (f:=Hx) (s:=4) (λ_=>rfl) hc.sl hci
 have x1:=el.ia
 rw [X4] at x1
 refine ⟨c,b,o,List.mem_of_getElem? hci,x1,λhx e=>?_⟩
 obtain ⟨b2,o2,el2⟩:=R0.elem (f:=Hx) (s:=4) (λ_=>rfl) (hc.tg ht e).sl hci
 have x2:=el2.ia h
 rw [X4,x1] at x2
 cases x2
 exact el2.all hx (Bi.refl hx)
set_option maxHeartbeats 2000000 in
theorem r41 (Fg:R38 ctx) (h79:R79 ctx) (d:Nat) (hd:d<=3) (ih:∀e,d=e+1->R80 ctx e/\R41 ctx e) (tk:Nat) (vl:AV) (L:List Int) (cv:AV) (A1:List Cl) (m:Int) (h:H) (hm:(d:Int)=m) (hi:H9 tk vl L h) (X3:Hu tk h cv A1) (Hr:A1≠[]) (hl:A1.length<=30):
 D6 tk vl h (Se (AaR A1) true (Sd d) h.nx) (Ay prog ctx N false 41 [.ptr tk 0,cv,.int .i64 m] h):=by
 refine Qk ?_
 rw [e41]
 have ht:=hi.at'
 have B6:=ht.lt
 have hlp:0<A1.length:=List.length_pos_iff.2 Hr
 have hT:∀(k:Int) (hx:H),TG tk vl h hx->k<=9223372036854775807->D6 tk vl hx (Below k) (ctx.call 38 [.ptr tk 0,.int .i64 k] hx):=λk hx e hk=>
  Fg tk vl L k hx (hi.tg e).at' (hi.tg e).ints hi.av hi.len hk
 have hlen:∀hh,Fo cv hh=.ok (.int .i64 (A1.length:Int)) hh:=λ_=>X3.sl.Gs
 refine Ey (hlen _) ?_
 refine M5 (hT _ _ (TG.refl ht) om) λv1 hx e1 l1 _ q1=>?_
 obtain ⟨i,rfl,i0,i1⟩:=q1
 obtain ⟨c,b,o,Hq,x1,hL⟩:=Atu X3 ht i0 om
 have O0:=X3.ok c Hq
 obtain ⟨o1,o2⟩:=B2 O0.words
 have hwl:∀hh,Fo c.w hh=.ok (.int .i64 (c.ws.length:Int)) hh:=λ_=>O0.words.Gs
 refine M5 (hT 8 _ e1 om) λv8 h8 e8 l8 BfJ q8=>?_
 obtain ⟨k8,rfl,k80,k81⟩:=q8
 repeat' (first|with_reducible (first|apply A7|apply A8|apply A9|apply Ba)|((with_reducible apply M5);exact hT _ _ L5 om;intro vv hh ee E8 Bu qq;(try simp only [C9] at E8 Bu);obtain ⟨jj,rfl,j0,j1⟩:=qq)|(with_reducible (first|apply Cy|apply Cz|apply C0|apply C1);(conv=>lhs;simp (disch:=first|exact dA|fail) [lw, *,x1]);with_reducible (first|apply A7|apply A8|apply A9|apply Ba|apply Cu|(refine Cv (by simp) ?_)|(apply Cw<;>intro hc<;>(try simp only [Bt] at hc)<;>(try (exfalso;omega)))))|(with_reducible (first|apply C2|apply C3|apply C4|apply C5)<;>intro hc<;>(try simp only [Bt] at hc)<;>(try (exfalso;omega))))
 rotate_left 2
 iterate 2
  . obtain ⟨e,rfl⟩:∃e,d=e+1:=⟨d - 1,by omega⟩
    obtain ⟨i3,i2⟩:=ih e rfl
    exact j41 ctx N Fg e om tk vl L cv m om om h hi (λhx e=>i3 tk vl L cv A1 _ hx om (hi.tg e) (X3.tg ht e) Hr hl) (λhx e=>i2 tk vl L cv A1 _ hx om (hi.tg e) (X3.tg ht e) Hr hl) _ om om _ (by simp;omega) _ _ L5
 all_goals (have hw5:=O0.Mu)
 all_goals (have hs3:3<=Sd d:=by cases d with|zero=>decide|succ e=>exact Nat.le_trans (Als (e:=e) om).1 (by simp only [Sd];omega))
 iterate 2
  . have x2:=hL h8 L5
    repeat' (first|with_reducible (first|apply A7|apply A8|apply A9|apply Ba)|(with_reducible (first|apply Cy|apply Cz|apply C0|apply C1);(conv=>lhs;simp (disch:=first|exact dA|fail) [lw, *,x2]);with_reducible (first|apply A7|apply A8|apply A9|apply Ba|apply Cu|(refine Cv (by simp) ?_)|(apply Cw<;>intro hc<;>(try simp only [Bt] at hc)<;>(try (exfalso;omega)))))|(with_reducible (first|apply C2|apply C3|apply C4|apply C5)<;>intro hc<;>(try simp only [Bt] at hc)<;>(try (exfalso;omega))))
    refine M5 (hT 6 _ L5 om) λv2 hy e2 l2 Aae q2=>?_
    obtain ⟨p,rfl,p0,p1⟩:=q2
    simp only [C9] at l2 Aae
    obtain ⟨w,hw,hw9⟩:∃w,E1 .i64 (9+(9+p).tmod 2)=w/\(w=9\/w=10):=by
     have h1:=Int.tmod_nonneg 2 (show 0<=9+p by omega)
     have h2:=Int.tmod_lt_of_pos (9+p) (show (0:Int)<2 by omega)
     exact ⟨9+(9+p).tmod 2,Cr _ om om,by omega⟩
    repeat' (first|with_reducible (first|apply A7|apply A8|apply A9|apply Ba)|((with_reducible apply M5);exact hT _ _ L5 om;intro vv hh ee E8 Bu qq;(try simp only [C9] at E8 Bu);obtain ⟨jj,rfl,j0,j1⟩:=qq)|((with_reducible (first|apply Fj|apply zc2));exact h79 _ _ _ _ _ (X3.tg ht L5) om i0 om;intro vv hh ee E8 Bu qq;(first|(have eqt:=Ai.quiet ee;try simp only [C9] at E8 Bu eqt)|(try simp only [C9] at E8 Bu));obtain ⟨bb,rfl,A1F⟩:=qq)|(with_reducible (first|apply Cy|apply Cz|apply C0|apply C1);(conv=>lhs;simp (disch:=first|exact dA|fail) [lw, *,hwl,hw]);with_reducible (first|apply A7|apply A8|apply A9|apply Ba|apply Cu|(refine Cv (by simp) ?_)|(apply Cw<;>intro hc<;>(try simp only [Bt] at hc)<;>(try (exfalso;omega)))))|(with_reducible (first|apply C2|apply C3|apply C4|apply C5)<;>intro hc<;>(try simp only [Bt] at hc)<;>(try (exfalso;omega)))|(refine B8 ?_ ?_;(focus (simp (disch:=first|decide|omega|(simp only [C9];omega)) [Aw,Am,Ar,Ax, *];done));(try simp (disch:=first|exact Ce|fail) only [Aw,Am,Bx,Ap,At,List.nil_append,List.cons_append,B9,Dp,Dn,C9,Ca, *])))
    . have X4:((jj.toNat:Nat):Int)=jj:=Int.toNat_of_nonneg j0
      obtain ⟨wd,hwd⟩:∃s,c.ws[jj.toNat]?=some s:=⟨_,List.getElem?_eq_getElem om⟩
      obtain ⟨b3,o3,el⟩:=R0.elem (f:=Aeb) (s:=1) (λ_=>rfl) (Sl.tg O0.words ht O0.av (show TG tk vl h hh from L5)) hwd
      have x3:=el.ia
      rw [X4] at x3
      have x4:=el.part 0 _ rfl
      rw [Nat.add_zero] at x4
      have hwm:=List.mem_of_getElem? hwd
      clear el hwd
      repeat' (first|with_reducible (first|apply A7|apply A8|apply A9|apply Ba)|(with_reducible (first|apply Cy|apply Cz|apply C0|apply C1);(conv=>lhs;simp (disch:=first|exact dA|fail) [lw, *,x3,x4]);with_reducible (first|apply A7|apply A8|apply A9|apply Ba|apply Cu|(refine Cv (by simp) ?_)|(apply Cw<;>intro hc<;>(try simp only [Bt] at hc)<;>(try (exfalso;omega)))))|(with_reducible (first|apply C2|apply C3|apply C4|apply C5)<;>intro hc<;>(try simp only [Bt] at hc)<;>(try (exfalso;omega)))|(refine B8 ?_ ?_;(focus (simp (disch:=first|decide|omega|(simp only [C9];omega)) [Aw,Am,Ar,Ax, *];done));(try simp (disch:=first|exact Ce|fail) only [Aw,Am,Bx,Ap,At,List.nil_append,List.cons_append,B9,Dp,Dn,C9,Ca, *])))
      refine Pu tk h.nx ?_ λLz Wp=>?_
      . simp only [List.forall_mem_cons,List.not_mem_nil,false_imp_iff,implies_true,and_true]
        repeat' (refine And.intro ?_ ?_)
        all_goals first|(left;simp;done)|(left;rfl)|(refine .inr ⟨λx hx=>.inl (TG.wrote (by assumption) x hx),?_⟩;(repeat' (refine And.intro ?_ ?_));all_goals first|(exact Ar ..)|(refine Ax _ _ _ _ _ _ _ _ _ _ _ _ ?_;decide)|exact Ci ..|exact Dk (tk:=tk) (TG.wrote (by assumption)) Ce (.inl rfl)|exact Dk (tk:=tk) (TG.wrote (by assumption)) Ce (.inr ⟨_,rfl,by omega,congrArg B5 (show _=AO.cells (Hx c) 96 .exact from N4)⟩)|exact Dk (tk:=tk) (TG.wrote (by assumption)) Ce (.inr ⟨_,rfl,by omega,congrArg B5 (show _=AO.cells [.int .i64 (w),.int .i64 0,.str []] 32 .exact from N4)⟩))
      . repeat' (first|with_reducible (first|apply A7|apply A8|apply A9|apply Ba)|(with_reducible (first|apply Cy|apply Cz|apply C0|apply C1);(conv=>lhs;simp (disch:=first|exact dA|fail) [lw, *]);with_reducible (first|apply A7|apply A8|apply A9|apply Ba|apply Cu|(refine Cv (by simp) ?_)|(apply Cw<;>intro hc<;>(try simp only [Bt] at hc)<;>(try (exfalso;omega)))))|(with_reducible (first|apply C2|apply C3|apply C4|apply C5)<;>intro hc<;>(try simp only [Bt] at hc)<;>(try (exfalso;omega))))
        have t1:TG tk vl h hh:=L5
        have tl:=t1.lo
        exact zr (Ed _) ⟨L5,.two w (.leaf ⟨2,0,c.name⟩) (.leaf ⟨3,0,wd⟩),.inr (.inr (.inl ⟨rfl,hw9,⟨rfl,rfl,c,Hq,rfl⟩,rfl,rfl,c,Hq,rfl,hwm⟩)),by simp only [size];omega,Wl (h:=hh) [⟨2,0,c.name⟩,⟨3,0,wd⟩,⟨w,0,[]⟩] 3 rfl (Bf (h:=Ab hh) _) rfl tl⟩
    iterate 3
     . skip
       refine Pu tk h.nx ?_ λLz Wp=>?_
       . simp only [List.forall_mem_cons,List.not_mem_nil,false_imp_iff,implies_true,and_true]
         repeat' (refine And.intro ?_ ?_)
         all_goals first|(left;simp;done)|(left;rfl)|(refine .inr ⟨λx hx=>.inl (TG.wrote (by assumption) x hx),?_⟩;(repeat' (refine And.intro ?_ ?_));all_goals first|(exact Ar ..)|(refine Ax _ _ _ _ _ _ _ _ _ _ _ _ ?_;decide)|exact Ci ..|exact Dk (tk:=tk) (TG.wrote (by assumption)) Ce (.inl rfl)|exact Dk (tk:=tk) (TG.wrote (by assumption)) Ce (.inr ⟨_,rfl,by omega,congrArg B5 (show _=AO.cells (Hx c) 96 .exact from N4)⟩)|exact Dk (tk:=tk) (TG.wrote (by assumption)) Ce (.inr ⟨_,rfl,by omega,congrArg B5 (show _=AO.cells [.int .i64 (9+p),.int .i64 0,.str []] 32 .exact from N4)⟩))
       . repeat' (first|with_reducible (first|apply A7|apply A8|apply A9|apply Ba)|(with_reducible (first|apply Cy|apply Cz|apply C0|apply C1);(conv=>lhs;simp (disch:=first|exact dA|fail) [lw, *]);with_reducible (first|apply A7|apply A8|apply A9|apply Ba|apply Cu|(refine Cv (by simp) ?_)|(apply Cw<;>intro hc<;>(try simp only [Bt] at hc)<;>(try (exfalso;omega)))))|(with_reducible (first|apply C2|apply C3|apply C4|apply C5)<;>intro hc<;>(try simp only [Bt] at hc)<;>(try (exfalso;omega))))
         have t1:TG tk vl h hh:=L5
         have tl:=t1.lo
         exact zr (Ed _) ⟨L5,.two (9+p) (.leaf ⟨2,0,c.name⟩) (.leaf ⟨1,jj,[]⟩),.inr (.inl ⟨rfl,by omega,⟨rfl,.inr ⟨rfl,rfl,c,Hq,rfl⟩⟩,Acz om om⟩),by simp only [size];omega,Wl (h:=hh) [⟨2,0,c.name⟩,⟨1,jj,[]⟩,⟨9+p,0,[]⟩] 3 rfl (Bf (h:=Ab hh) _) rfl tl⟩
end Go.Proofs
namespace Go.Proofs
open Go Go.Ev Go.Nm Go.Ev.Sx
attribute [local irreducible] Aa Al Af Ad
variable {h h1 h2:H} {tk bq:Nat} {vl:AV}
def TQ (tk:Nat) (vl:AV) (bq:Nat) (h h1:H):Prop:=∃o,Vu 20 o=true/\TG tk vl (h.put bq o) h1
theorem TQ.refl (ht:H8 h tk vl) (hb:Vu 20 (h.m.get bq)=true) (hn:bq≠tk):TQ tk vl bq h h:=by
 refine ⟨h.m.get bq,hb,?_⟩
 obtain ⟨m,hm,hc⟩:=ht.cell
 refine ⟨m,hm,Nat.le_refl _,λb hb=>?_,λx hx=>.inl (List.mem_cons_of_mem _ (List.mem_cons_of_mem _ hx))⟩
 by_cases e:b=tk
 . subst e
   rw [A2,hc]
 . rw [Aq _ _ _ e]
   by_cases e2:b=bq
   . subst e2
     rw [A2]
   . rw [Aq _ _ _ e2]
theorem TQ.tg (e:TQ tk vl bq h h1) (g:TG tk vl h1 h2):TQ tk vl bq h h2:=by
 obtain ⟨o,ho,e⟩:=e
 exact ⟨o,ho,e.trans g⟩
theorem TQ.gr (e:TQ tk vl bq h h1) (g:Ai h1 h2):TQ tk vl bq h h2:=by
 obtain ⟨o,ho,e⟩:=e
 exact ⟨o,ho,e.gr g⟩
theorem TQ.nl (e:TQ tk vl bq h h1):TQ tk vl bq h (Ab h1):=e.gr (Ai.refl h1).nl
theorem TQ.new (e:TQ tk vl bq h h1) (o:AO):TQ tk vl bq h (h1.new o):=e.gr ((Ai.refl h1).new o)
theorem TQ.lo (e:TQ tk vl bq h h1):h.nx<=h1.nx:=by
 obtain ⟨o,ho,e⟩:=e
 exact e.lo
theorem TQ.Cf (e:TQ tk vl bq h h1) (b:Nat) (hb:b<h.nx) (n1:b≠tk) (n2:b≠bq):h1.m.get b=h.m.get b:=by
 obtain ⟨o,ho,e⟩:=e
 rw [e.Cf b hb n1,Aq _ _ _ n2]
theorem TQ.at (e:TQ tk vl bq h h1) (ht:tk<h.nx):H8 h1 tk vl:=by
 obtain ⟨o,ho,e⟩:=e
 exact e.at ht
theorem TQ.Aiq (e:TQ tk vl bq h h1) (c:Nat) (o:AO) (hc:h.nx<=c):TQ tk vl bq h (h1.put c o):=by
 obtain ⟨o',ho,e⟩:=e
 exact ⟨o',ho,e.Aiq c o hc⟩
theorem TQ.put (e:TQ tk vl bq h h1) (o:AO) (ho:Vu 20 o=true) (hn:bq≠tk):TQ tk vl bq h (h1.put bq o):=by
 obtain ⟨o',ho',m,hm,hg⟩:=e
 refine ⟨o,ho,m,hm,hg.lo,λb hb=>?_,λx hx=>?_⟩
 . by_cases e2:b=bq
   . subst e2
     rw [A2,Aq _ _ _ hn,A2]
   . rw [Aq _ _ _ e2,hg.Cf b hb]
     by_cases e:b=tk
     . subst e
       rw [A2,A2]
     . rw [Aq _ _ _ e,Aq _ _ _ e2,Aq _ _ _ e,Aq _ _ _ e2]
 . rcases List.mem_cons.1 hx with rfl|hx
   . exact .inl (List.mem_cons_of_mem _ (List.mem_cons_self ..))
   . exact hg.lg x hx
theorem TQ.reL {hA:H} {L:List Nat} (e1:TQ tk vl bq h hA) (e2:TQ tk vl bq h h1) (hL:∀z∈L,z∈hA.lg\/z=tk\/z=bq\/h.nx<=z):TQ tk vl bq h (Be L h1):=by
 obtain ⟨o,ho,m,hm,hg⟩:=e2
 obtain ⟨o1,ho1,m1,hm1,hg1⟩:=e1
 refine ⟨o,ho,m,hm,hg.lo,hg.Cf,λz hz=>?_⟩
 rcases hL z hz with h3|rfl|rfl|h3
 . exact hg1.lg z h3
 . exact .inl (List.mem_cons_self ..)
 . exact .inl (List.mem_cons_of_mem _ (List.mem_cons_self ..))
 . exact .inr h3
theorem Sl.tq {s len:Nat} {v:AV} {c:List AV} (hs:Sl s h v len c) (ht:H8 h tk vl) (ha:Av tk v) (hb:Av bq v) (hq:Vu 20 (h.m.get bq)=true) (hn:bq≠tk) (e:TQ tk vl bq h h1):Sl s h1 v len c:=by
 obtain ⟨o,ho,e⟩:=e
 obtain ⟨l0,e0,hg0,hl0⟩:=Pb hq
 obtain ⟨l1,e1,rfl,Vs⟩:=Pb ho
 have ht2:H8 (h.put bq (.cells l1 e1 .exact)) tk vl:=by
  obtain ⟨m,hm,hc⟩:=ht.cell
  exact ⟨ht.lt,m,hm,by rw [Aq _ _ _ (λhh=>hn hh.symm)];exact hc⟩
 refine Sl.tg (Sl.AnO hs hg0 om λh0 b off n cap z ex hv=>?_) ht2 ha e
 subst hv
 rcases hs with ⟨h3,_⟩|⟨b',Yk,Ll,ex',cs,h3,_⟩
 . omega
 . cases h3
   exact hb _ _ _ _ _ _ rfl h0
theorem ClR.tq {c:Cl} (hc:ClR tk h c) (hc2:ClR bq h c) (ht:H8 h tk vl) (hq:Vu 20 (h.m.get bq)=true) (hn:bq≠tk) (e:TQ tk vl bq h h1):ClR tk h1 c:=⟨hc.Mu,Sl.tq hc.words ht hc.av hc2.av hq hn e,hc.av,hc.one,hc.cell⟩
theorem Hu.tq {v:AV} {l:List Cl} (hc:Hu tk h v l) (hc2:Hu bq h v l) (ht:H8 h tk vl) (hq:Vu 20 (h.m.get bq)=true) (hn:bq≠tk) (e:TQ tk vl bq h h1):Hu tk h1 v l:=⟨Sl.tq hc.sl ht hc.av hc2.av hq hn e,hc.av,λc hh=>(hc.ok c hh).tq (hc2.ok c hh) ht hq hn e⟩
theorem H9.tq {L:List Int} (hi:H9 tk vl L h) (hb:Av bq vl) (hq:Vu 20 (h.m.get bq)=true) (hn:bq≠tk) (e:TQ tk vl bq h h1):H9 tk vl L h1:=⟨e.at hi.at'.lt,Sl.tq hi.ints hi.at' hi.av hb hq hn e,hi.av,hi.len⟩
theorem Acx {Q:AV->H->Prop} {h0 hF:H} {Fl:List EF} {lg:List Nat} {k:H->OR} (tk bq lo:Nat) (he:∀e∈Fl,e.w=[]\/((∀x∈e.w,x=tk\/x=bq\/lo<=x)/\∀a∈Fl,Jo e a=true)) (hk:∀L,(∀z∈L,z∈lg\/z=tk\/z=bq\/lo<=z)->Ah h0 Q (k (Be L hF))):Ah h0 Q (Ff lg Fl hF k):=by
 have Ga:Lh Fl=true:=V9 Fl Fl λe h1=>by
  rcases he e h1 with h3|h3
  . rw [h3];exact .inl rfl
  . exact .inr (V4 e Fl h3.2)
 rw [So Ga]
 refine hk _ ?_
 have Cs:∀e∈Fl,∀x∈e.w,x=tk\/x=bq\/lo<=x:=λe h1 x hx=>by
  rcases he e h1 with h3|h3
  . rw [h3] at hx;cases hx
  . exact h3.1 x hx
 clear he Ga hk
 induction Fl with
 |nil=>exact λz hz=>.inl hz
 |cons e es ih=>
  intro z hz
  rw [Ap] at hz
  rcases List.mem_append.1 hz with hz|hz
  . exact .inr (Cs e (List.mem_cons_self ..) z hz)
  . exact ih (λe h1=>Cs e (List.mem_cons_of_mem _ h1)) z hz
theorem tqA (q:TQ tk vl bq h h1:=by first|((repeat' (first|assumption|with_reducible apply TQ.nl|with_reducible apply TQ.new|((with_reducible refine TQ.put ?_ _ ?_ ?_);rotate_left;(focus (first|rfl|assumption));(focus (first|assumption|omega)))|(with_reducible refine TQ.Aiq ?_ _ _ ?_)|(refine TQ.tg ?_ (by assumption))|(refine TQ.gr ?_ (by assumption))|(refine TQ.reL ?_ ?_ (by assumption))|omega|(simp only [C9];omega)));done)|fail):TQ tk vl bq h h1:=q
end Go.Proofs
namespace Go.Proofs
open Go Go.Ev Go.Nm Tryz Go.Ev.Sx
attribute [local irreducible] Aa Al Af Ad
variable (ctx:Ac) (N:Nat)
theorem Ahb {tk:Nat} {e:EF} {ab ap an b:Nat} {ah:H} (he:∀x∈e.w,x=tk) (ho:tk<ah.nx) (hb:b≠tk) (hc:∀k,B5 (ah.m.get b)=some k->k≠tk):Jo e ⟨ab,ap,[],.blk b,ah,an⟩=true:=by
 cases hk:B5 (ah.m.get b) with
 |none=>exact Dk he ho (.inr ⟨b,rfl,hb,hk⟩)
 |some k=>
  unfold Jo
  have h1:Ahl e.w []=true:=Zq _
  have h2:outside e.w ah.nx an=true:=Wo _ _ ho _ he
  have h3:clear (.blk b) e.w ah=true:=by
   show (Bool.rec (motive:=λ_=>Bool) (AbY e.w (B5 (ah.m.get b))) false (Ve b e.w):Bool)=true
   rw [Ab8 b e.w he hb,hk]
   show Ib (Ve k e.w)=true
   rw [Ab8 k e.w he (hc k hk)]
   rfl
  rw [h1,h2,h3]
  cases M4 (Nat.lor (Nat.land e.pr ab) (Nat.land ap e.bit))<;>cases Nat.beq e.bit ab<;>rfl
theorem AlW {tk bq:Nat} {vl:AV} {h:H} {s:Sc} {i:Int} (hs:ScR tk h s) (hs2:ScR bq h s) (ht:H8 h tk vl) (hq:Vu 20 (h.m.get bq)=true) (hn:bq≠tk) (i0:0<=i) (i1:i<(s.A1.length:Int)):
 ∃(nm:List Nat) (b o:Nat),(∃c∈s.A1,c.name=nm)/\b<tk/\b<bq/\(∀k,B5 (h.m.get b)=some k->k<tk)/\(∀hh,Gc 4 s.cv (.int .i64 i) hh=.ok (.ptr b o) hh)/\∀hx,TQ tk vl bq h hx->∀hh,Bi hx hh->Ae (some none) (.ptr b o) hh=.ok (.str nm) hh:=by
 have X4:((i.toNat:Nat):Int)=i:=Int.toNat_of_nonneg i0
 obtain ⟨c,hci⟩:∃c,s.A1[i.toNat]?=some c:=⟨_,List.getElem?_eq_getElem om⟩
 obtain ⟨b,o,el⟩:=R0.elem (f:=Hx) (s:=4) (λ_=>rfl) hs.A1.sl hci
 have x1:=el.ia
 rw [X4] at x1
 obtain ⟨off,cap,ex,hv⟩:=Acg hs.A1.sl om el
 obtain ⟨p1,p2⟩:=hs.cz b off _ cap 4 ex hv om
 obtain ⟨p3,p4⟩:=hs2.cz b off _ cap 4 ex hv om
 refine ⟨c.name,b,o,⟨c,List.mem_of_getElem? hci,rfl⟩,p1,p3,p2,x1,λhx e=>?_⟩
 obtain ⟨b2,o2,el2⟩:=R0.elem (f:=Hx) (s:=4) (λ_=>rfl) (hs.A1.tq hs2.A1 ht hq hn e).sl hci
 have x2:=el2.ia h
 rw [X4,x1] at x2
 cases x2
 exact el2.part 0 _ rfl
def JV (a b:Sc) (q:Qr) (Wu s14 s15:List Nat) (c16:Int):Prop:=(Wu=q.Wu/\s14=q.s14/\s15=q.s15/\c16=q.c16)\/(Wu=b.name/\(∃c∈a.A1,c.name=s14)/\(∃c∈b.A1,c.name=s15)/\s14=s15/\1<=c16/\c16<=3)
def JQ (a b:Sc) (q:Qr) (vc vo vm:AV) (bq:Nat) (h1:H):Prop:=∃(Wu s14 s15:List Nat) (c16:Int),JV a b q Wu s14 s15 c16/\h1.m.get bq=.cells (qc { q with Wu:=Wu,s14:=s14,s15:=s15,c16:=c16 } vc vo vm) 26 .exact
structure JIn (tk:Nat) (vl:AV) (L:List Int) (bq:Nat) (h:H) (q:Qr) (vc vo vm:AV) (a b:Sc):Prop where
 hi:H9 tk vl L h
 av:Av bq vl
 hn:bq≠tk
 lt:bq<h.nx
 c1:Ge vc=true/\cellsOf vc=some [vc]
 c2:Ge vo=true/\cellsOf vo=some [vo]
 c3:Ge vm=true/\cellsOf vm=some [vm]
 hq:Vu 20 (h.m.get bq)=true
 a1:ScR tk h a
 a2:ScR bq h a
 b1:ScR tk h b
 b2:ScR bq h b
set_option maxHeartbeats 2000000 in
theorem AlO (Fg:R38 ctx) {Q:AV->H->Prop} (tk:Nat) (vl:AV) (L:List Int) (bq:Nat) (h:H) (q:Qr) (vc vo vm:AV) (a b:Sc) (J:JIn tk vl L bq h q vc vo vm a b) (n1:Nat) (i:Int) (i0:0<=i) (i1:i<(a.A1.length:Int))
 (Qz:∀(hd:H) (f:L2),TQ tk vl bq h hd->h.nx+2<=hd.nx->hd.m.get h.nx=.cells (Ze a) 73 .exact->hd.m.get (h.nx+1)=.cells (Ze b) 73 .exact->JQ a b q vc vo vm bq hd->Ah H0 Q (AgC ctx N n1 (.ptr tk 0) (.ptr bq 0) (.ptr h.nx 0) (.ptr (h.nx+1) 0) (.int .i64 (i+1)) f hd)):
 ∀(k:Nat) (m:Int) (n:Nat) (hd:H) (f0:L2),m+(k:Int)=(b.A1.length:Int)->0<=m->k<n->TQ tk vl bq h hd->h.nx+2<=hd.nx->hd.m.get h.nx=.cells (Ze a) 73 .exact->hd.m.get (h.nx+1)=.cells (Ze b) 73 .exact->JQ a b q vc vo vm bq hd->Ah H0 Q (Alk ctx N n1 n (.ptr tk 0) (.ptr bq 0) (.ptr h.nx 0) (.ptr (h.nx+1) 0) (.int .i64 i) (.int .i64 m) f0 hd)
 |0,m,n,hd,f0,hmk,hm0,S3,e,hx2,g6,g7,hj=>by
  obtain ⟨n2,rfl⟩:∃n2,n=n2+1:=⟨n - 1,by omega⟩
  have k1:decide (m<(b.A1.length:Int))=false:=df
  have hlen:∀hh,Fo b.cv hh=.ok (.int .i64 (b.A1.length:Int)) hh:=λ_=>J.b1.A1.sl.Gs
  have ha5:=J.a1.Mu
  rw [Ape]
  refine wk ?_
  exact Qz hd _ e hx2 g6 g7 hj
 |k+1,m,n,hd,f0,hmk,hm0,S3,e,hx2,g6,g7,hj=>by
  obtain ⟨n2,rfl⟩:∃n2,n=n2+1:=⟨n - 1,by omega⟩
  have ih:=AlO Fg tk vl L bq h q vc vo vm a b J n1 i i0 i1 Qz k (m+1) n2
  have ha5:=J.a1.Mu
  have hb5:=J.b1.Mu
  have B6:=J.hi.at'.lt
  have G8:=J.lt
  have hn:=J.hn
  have k1:decide (m<(b.A1.length:Int))=true:=dt
  have hlen:∀hh,Fo b.cv hh=.ok (.int .i64 (b.A1.length:Int)) hh:=λ_=>J.b1.A1.sl.Gs
  have hT:∀(k:Int) (hx:H),TQ tk vl bq h hx->k<=9223372036854775807->D6 tk vl hx (Below k) (ctx.call 38 [.ptr tk 0,.int .i64 k] hx):=λk hx e hk=>
   Fg tk vl L k hx (J.hi.tq J.av J.hq hn e).at' (J.hi.tq J.av J.hq hn e).ints J.hi.av J.hi.len hk
  obtain ⟨na,ba,oa,ca,pa1,pa2,pa3,J4,J1⟩:=AlW J.a1 J.a2 J.hi.at' J.hq hn i0 i1
  obtain ⟨nb,bb,ob,cb,pb1,pb2,pb3,Wx,Vz⟩:=AlW J.b1 J.b2 J.hi.at' J.hq hn hm0 (show m<(b.A1.length:Int) by omega)
  have J5:=J1 hd e
  have Wy:=Vz hd e
  obtain ⟨oa1,oa2⟩:Ge a.cv=true/\cellsOf a.cv=some [a.cv]:=⟨J.a1.one,J.a1.cell⟩
  obtain ⟨Wu,s14,s15,c16,hjv,hq⟩:=hj
  have ka:∀k,B5 (hd.m.get ba)=some k->k≠tk:=λk hk=>by
   rw [e.Cf ba om om om] at hk
   have:=pa3 k hk
   omega
  have kb:∀k,B5 (hd.m.get bb)=some k->k≠tk:=λk hk=>by
   rw [e.Cf bb om om om] at hk
   have:=pb3 k hk
   omega
  clear Qz J1 Vz pa3 pb3 J
  rw [Ape]
  repeat' (first|refine wd ?_|(refine zqq ?_ ?_<;>intro hc<;>(try (exfalso;omega)))|fail)
  . refine M5 (hT 3 _ tqA om) λv2 hh ee E8 Bu q2=>?_
    obtain ⟨jj,rfl,j0,j1⟩:=q2
    have hw:=TG.wrote (show TG tk vl (Ab (Ab hd)) hh from ee)
    simp only [C9] at E8 Bu
    obtain ⟨c0,code,c2,c3,c4,c5,s6,c7,ord,c9,Wz,Uw,W0,Yc,Sk,Uo,U3,E9,Oi,Mg⟩:=q
    simp only at hq
    have hq2:=(Bu bq (by have:=e.lo;omega) hn).trans hq
    have te:TQ tk vl bq h hh:=tqA
    refine wd ?_
    refine Acx tk bq h.nx ?_ λLz Wp=>?_
    . simp only [List.forall_mem_cons,List.not_mem_nil,false_imp_iff,implies_true,and_true]
      repeat' (refine And.intro ?_ ?_)
      all_goals first|(left;simp;done)|(left;rfl)|(refine .inr ⟨λx hx=>?_,?_⟩;(focus first|exact .inl (hw x hx)|(refine .inr (.inl ?_);have hz:=(D4 _ _ _ hx).1;simp at hz;exact hz));(repeat' (refine And.intro ?_ ?_));all_goals first|(exact Ar ..)|(refine Ax _ _ _ _ _ _ _ _ _ _ _ _ ?_;decide)|exact Ci ..|exact Dk (tk:=tk) hw Ce (.inl rfl)|exact Dk (tk:=tk) hw Ce (.inr ⟨_,rfl,by omega,congrArg B5 g6⟩)|exact Dk (tk:=tk) hw Ce (.inr ⟨_,rfl,by omega,congrArg B5 g7⟩)|exact Ahb (tk:=tk) hw Ce om ka|exact Ahb (tk:=tk) hw Ce om kb)
    . rw [AoQ]
      refine wk ?_
      have Qy:h.nx≠bq:=by omega
      have Wg:h.nx+1≠bq:=by omega
      have w6:=(Bu h.nx om om).trans g6
      have w7:=(Bu (h.nx+1) om om).trans g7
      refine ih _ _ om om om ?_ Ce ?_ ?_ ⟨_,_,_,_,?_,A2 ..⟩
      . exact TQ.reL e ((((te.nl.put _ rfl hn).nl.put _ rfl hn).nl.put _ rfl hn).nl.put _ rfl hn) Wp
      . show (H.put _ _ _).m.get _=_
        rw [Aq _ _ _ Qy];show (H.put _ _ _).m.get _=_
        rw [Aq _ _ _ Qy];show (H.put _ _ _).m.get _=_
        rw [Aq _ _ _ Qy];show (H.put _ _ _).m.get _=_
        rw [Aq _ _ _ Qy]
        exact w6
      . show (H.put _ _ _).m.get _=_
        rw [Aq _ _ _ Wg];show (H.put _ _ _).m.get _=_
        rw [Aq _ _ _ Wg];show (H.put _ _ _).m.get _=_
        rw [Aq _ _ _ Wg];show (H.put _ _ _).m.get _=_
        rw [Aq _ _ _ Wg]
        exact w7
      . have hab:na=nb:=by assumption
        exact .inr ⟨rfl,by first|exact ca|(rw [<- hab];exact ca)|(rw [hab] at ca;exact ca),by first|exact cb|(rw [hab];exact cb)|(rw [<- hab] at cb;exact cb),by first|rfl|exact hab|exact hab.symm,by omega,by omega⟩
  . rw [AoQ]
    refine wk ?_
    exact ih hd _ om om om e hx2 g6 g7 ⟨Wu,s14,s15,c16,hjv,hq⟩
theorem AlN (Fg:R38 ctx) (hN:100<N) (tk:Nat) (vl:AV) (L:List Int) (bq:Nat) (h:H) (q:Qr) (vc vo vm:AV) (a b:Sc) (J:JIn tk vl L bq h q vc vo vm a b):
 ∀(k:Nat) (i:Int) (n:Nat) (hd:H) (f0:L2),i+(k:Int)=(a.A1.length:Int)->0<=i->k<n->TQ tk vl bq h hd->h.nx+2<=hd.nx->hd.m.get h.nx=.cells (Ze a) 73 .exact->hd.m.get (h.nx+1)=.cells (Ze b) 73 .exact->JQ a b q vc vo vm bq hd->Ah H0 (λ_ h1=>TQ tk vl bq h h1/\JQ a b q vc vo vm bq h1) (AgC ctx N n (.ptr tk 0) (.ptr bq 0) (.ptr h.nx 0) (.ptr (h.nx+1) 0) (.int .i64 i) f0 hd)
 |0,i,n,hd,f0,Qd,H4,S3,e,hx2,g6,g7,hj=>by
  obtain ⟨n2,rfl⟩:∃n2,n=n2+1:=⟨n - 1,by omega⟩
  have k1:decide (i<(a.A1.length:Int))=false:=df
  have hlen:∀hh,Fo a.cv hh=.ok (.int .i64 (a.A1.length:Int)) hh:=λ_=>J.a1.A1.sl.Gs
  rw [Apd]
  refine wk ?_
  exact zr (Ed _) ⟨e,hj⟩
 |k+1,i,n,hd,f0,Qd,H4,S3,e,hx2,g6,g7,hj=>by
  obtain ⟨n2,rfl⟩:∃n2,n=n2+1:=⟨n - 1,by omega⟩
  have ih:=AlN Fg hN tk vl L bq h q vc vo vm a b J k (i+1) n2
  have hb5:=J.b1.Mu
  have k1:decide (i<(a.A1.length:Int))=true:=dt
  have hlen:∀hh,Fo a.cv hh=.ok (.int .i64 (a.A1.length:Int)) hh:=λ_=>J.a1.A1.sl.Gs
  rw [Apd]
  refine wk ?_
  exact AlO ctx N Fg tk vl L bq h q vc vo vm a b J n2 i H4 om (λhd f p1 p2 p3 p4 p5=>ih hd f om om om p1 p2 p3 p4 p5) b.A1.length 0 N hd _ om om om e hx2 g6 g7 hj
def R39:Prop:=∀(tk:Nat) (vl:AV) (L:List Int) (bq:Nat) (h:H) (q:Qr) (vc vo vm:AV) (a b:Sc),JIn tk vl L bq h q vc vo vm a b->h.m.get bq=.cells (qc q vc vo vm) 26 .exact->Ah H0 (λ_ h1=>TQ tk vl bq h h1/\JQ a b q vc vo vm bq h1) (ctx.call 39 [.ptr tk 0,.ptr bq 0,.agg (Ze a),.agg (Ze b)] h)
theorem r39 (Fg:R38 ctx) (hN:100<N) (tk:Nat) (vl:AV) (L:List Int) (bq:Nat) (h:H) (q:Qr) (vc vo vm:AV) (a b:Sc) (J:JIn tk vl L bq h q vc vo vm a b) (hg:h.m.get bq=.cells (qc q vc vo vm) 26 .exact):Ah H0 (λ_ h1=>TQ tk vl bq h h1/\JQ a b q vc vo vm bq h1) (Ay prog ctx N false 39 [.ptr tk 0,.ptr bq 0,.agg (Ze a),.agg (Ze b)] h):=by
 rw [e39]
 have ha5:=J.a1.Mu
 have G8:=J.lt
 obtain ⟨oa1,oa2⟩:Ge a.cv=true/\cellsOf a.cv=some [a.cv]:=⟨J.a1.one,J.a1.cell⟩
 obtain ⟨ob1,ob2⟩:Ge b.cv=true/\cellsOf b.cv=some [b.cv]:=⟨J.b1.one,J.b1.cell⟩
 refine wk ?_
 refine AlN ctx N Fg hN tk vl L bq h q vc vo vm a b J a.A1.length 0 N _ _ om om om (((TQ.refl J.hi.at' J.hq J.hn).new _).new _) (Nat.le_refl _) ?_ (Bf (h:=h.new _) _) ⟨q.Wu,q.s14,q.s15,q.c16,.inl ⟨rfl,rfl,rfl,rfl⟩,?_⟩
 . rw [Cq (h:=h.new _) _ h.nx (by show h.nx≠h.nx+1;omega)]
   exact Bf _
 . rw [Cq (h:=h.new _) _ bq (by show bq≠h.nx+1;omega),Cq (h:=h) _ bq om]
   exact hg
end Go.Proofs
