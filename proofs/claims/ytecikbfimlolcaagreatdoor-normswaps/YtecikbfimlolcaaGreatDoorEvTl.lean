/- Swap: the operands, and the operation. -/
import Derived.Test.YtecikbfimlolcaaGreatDoorEvTj
set_option maxRecDepth 100000
set_option linter.unusedSimpArgs false
set_option linter.unusedVariables false
noncomputable section
namespace Go.Proofs
open Go Go.Ev Go.Nm
attribute [local irreducible] Aa Al Af Ad
variable (ctx:Ac) (N:Nat)
theorem AfV {tk:Nat} {vl:AV} {h hc:H} {v w:AV} {l m:List Nd} (he:Sx.TG tk vl h hc) (hv:Oo h.nx hc v l) (hw:Ue hc w m) (hm:m≠[]) (hl:l.length+m.length<=1000):
 ∃v' h',Ds 32 3 32 v w hc=.ok v' h'/\Sx.TG tk vl h h'/\Oo h.nx h' v' (l++m)/\Sx.Bi hc h':=by
 have hp:0<m.length:=List.length_pos_iff.2 hm
 rcases hv with hv|⟨b,off,cs,rfl,q1,q2,q3,q4⟩
 . obtain ⟨v',h',p1,p2,p3,p4,p5⟩:=Sx.Fm.AbQ (bytes:=32) (lo:=h.nx) hv hw.src hw.Rv (by omega) (Ab9 m) he.lo
   refine ⟨v',h',p1,?_,.inl ?_,p2⟩
   . obtain ⟨k,hk,hg⟩:=he
     exact ⟨k,hk,p3 _ (Nat.le_refl _) hg⟩
   . rw [NdO,List.length_append,List.flatMap_append]
     exact p4
 . obtain ⟨v',h',p1,p2,p3⟩:=Ahy (bytes:=32) (et:=32) (lo:=h.nx) q1 q2 q3 hw.src hw.Rv (by omega) (Ab9 m) hp he.lo
   refine ⟨v',h',p1,he.gr p2,.inl ?_,p2.keeps⟩
   rw [NdO,List.length_append,List.flatMap_append]
   exact p3
theorem Aur {tk:Nat} {vl:AV} {h hc:H} {v:AV} {l:List Nd} (x:Nd) (he:Sx.TG tk vl h hc) (hv:Oo h.nx hc v l) (hl:l.length<=990):
 ∃v' h',Ds 32 3 32 v (.sl hc.nx 0 1 1 3 true) (hc.new (.cells (Bw x) 32 .exact))=.ok v' h'/\Sx.TG tk vl h h'/\Oo h.nx h' v' (l++[x])/\Sx.Bi hc h':=by
 obtain ⟨v',h',p1,p2,p3,p4⟩:=AfV (m:=[x]) (he.new (.cells (Bw x) 32 .exact)) (hv.gr ((Sx.Ai.refl hc).new _)) (Sx.Sl.lit (h:=hc) (Sx.Bf _) rfl rfl) (by simp) (by simp;omega)
 exact ⟨v',h',p1,p2,p3,((Sx.Ai.refl hc).new _).keeps.trans p4⟩
theorem Aus {tk:Nat} {vl:AV} {h hc:H} {v:AV} {l:List Nd} (x y:Nd) (he:Sx.TG tk vl h hc) (hv:Oo h.nx hc v l) (hl:l.length<=990):
 ∃v' h',Ds 32 3 32 v (.sl hc.nx 0 2 2 3 true) (hc.new (.cells (Bw x++Bw y) 32 .exact))=.ok v' h'/\Sx.TG tk vl h h'/\Oo h.nx h' v' (l++[x,y])/\Sx.Bi hc h':=by
 obtain ⟨v',h',p1,p2,p3,p4⟩:=AfV (m:=[x,y]) (he.new (.cells (Bw x++Bw y) 32 .exact)) (hv.gr ((Sx.Ai.refl hc).new _)) (Sx.Sl.lit (h:=hc) (Sx.Bf _) rfl rfl) (by simp) (by simp;omega)
 exact ⟨v',h',p1,p2,p3,((Sx.Ai.refl hc).new _).keeps.trans p4⟩
structure St (tk lo:Nat) (h:H) (v:AV) (S:List (AV × List Nd)):Prop where
 sl:Sx.Sl 1 h v S.length (S.map (·.1))
 av:Sx.Av tk v
 el:∀p∈S,Ue h p.1 p.2/\(Sx.Av tk p.1/\W7 3 lo p.1)/\p.2≠[]
theorem Ar1 {h:H}:∀(S:List (AV × List Nd)),(∀p∈S,Ue h p.1 p.2)->Bm (S.map (·.1))=true
 |[],_=>rfl
 |p::S,hp=>by
  have ih:=Ar1 S λq hq=>hp q (List.mem_cons_of_mem _ hq)
  have h1:=(B2 (hp p (List.mem_cons_self ..))).1
  simp [ih,h1]
theorem Am1 {lo tk:Nat} {h:H} {v:AV} {l:List Nd} (hv:Oo lo h v l) (ht:tk<lo):Sx.Av tk v:=λb off len cap z ex hh h0=>by
 have:=hv.beh b off len cap z ex hh h0
 omega
theorem A41 (tk:Nat) (vl:AV) (h:H) (ht:tk<h.nx) (lv v out:AV) (S0 A:List (AV × List Nd)) (R:List Nd) (hR:R≠[]) (i n:Nat) (hi:i<=1000) (f0:L2) (hx:H) (he:Sx.TG tk vl h hx) (st:St tk h.nx hx v (S0++A)) (ho:Oo h.nx hx out R) (hS:S0.length<=1000) (hA:A.length<=3) {Q:AV->H->Prop}
 (hK:∀(v':AV) (hy:H) (f:L2),Sx.TG tk vl h hy->St tk h.nx hy v' (S0++[(out,R)])->Sx.Ah Sx.H0 Q (O0 ctx N n (.ptr tk 0) lv v' (.int .i64 ((i:Int)+1)) f hy)):
 Sx.Ah Sx.H0 Q (Ag9 ctx N n (.ptr tk 0) lv v (.int .i64 i) (.int .i64 (A.length:Int)) out f0 hx):=by
 have hlen:∀hh,Fo v hh=.ok (.int .i64 ((S0++A).length:Int)) hh:=λ_=>st.sl.Gs
 have Abm:E1 .i64 (((S0++A).length:Int) - (A.length:Int))=(S0.length:Int):=by
  rw [List.length_append]
  rw [Sx.Cr _ (by omega) (by omega)]
  omega
 obtain ⟨v4,q1,q2⟩:=Sx.Sl.hi (P:=Tryz.prog) (t:=82) (e:=22) (bytes:=24) (u:=S0.length) (by kernel_rfl) st.sl (by rw [List.length_append];omega)
 have Kf:=he.lo
 obtain ⟨o1,o2⟩:=ho.one
 rw [AwM]
 repeat' (first|with_reducible (first|apply A7|apply A8|apply A9|apply Ba)|(with_reducible (first|apply Cy|apply Cz|apply C0|apply C1);(conv=>lhs;simp (disch:=first|exact dA|fail) [lw, *,hlen,Abm,q1]);with_reducible (first|apply A7|apply A8|apply A9|apply Ba|apply Cu|(refine Cv (by simp) ?_)|(apply Cw<;>intro hc<;>(try simp only [Bt] at hc)<;>(try (exfalso;omega)))))|(with_reducible (first|apply C2|apply C3|apply C4|apply C5)<;>intro hc<;>(try simp only [Bt] at hc)<;>(try (exfalso;omega))))
 have g1:Sx.Ai hx (hx.new (.cells [] 22 .exact)):=(Sx.Ai.refl hx).new _
 have F6:=q2 _ g1.keeps
 have htk:List.take (S0.length * 1) ((S0++A).map (·.1))=S0.map (·.1):=by simp
 rw [htk] at F6
 have st0:∀p∈S0,Ue hx p.1 p.2/\(Sx.Av tk p.1/\W7 3 h.nx p.1)/\p.2≠[]:=λp hp=>st.el p (List.mem_append_left _ hp)
 obtain ⟨v5,h5,p1,p2,p3⟩:=Sx.Sg (h:=hx.new (.cells [] 22 .exact)) (b:=hx.nx) (off:=0) (cs:=[]) (bytes:=24) (et:=22) (lo:=h.nx) ⟨Nat.lt_succ_self _,22,.exact,Sx.Bf _,trivial⟩ (Nat.le_refl _) F6 (by simp) (by omega) (Ar1 S0 λp hp=>(st0 p hp).1) (by show h.nx<=hx.nx+1;omega)
 refine Sx.Ey p1 ?_
 have g5:Sx.Ai hx h5:=g1.trans p2
 have o5:=ho.gr g5
 clear p1 q1 q2 F6
 repeat' (first|with_reducible (first|apply A7|apply A8|apply A9|apply Ba)|(with_reducible (first|apply Cy|apply Cz|apply C0|apply C1);(conv=>lhs;simp (disch:=first|exact dA|fail) [lw, *]);with_reducible (first|apply A7|apply A8|apply A9|apply Ba|apply Cu|(refine Cv (by simp) ?_)|(apply Cw<;>intro hc<;>(try simp only [Bt] at hc)<;>(try (exfalso;omega)))))|(with_reducible (first|apply C2|apply C3|apply C4|apply C5)<;>intro hc<;>(try simp only [Bt] at hc)<;>(try (exfalso;omega))))
 have g6:Sx.Ai h5 (h5.new (.cells [out] 22 .exact)):=(Sx.Ai.refl h5).new _
 have hs:Sx.Sl 1 (h5.new (.cells [out] 22 .exact)) (.sl h5.nx 0 1 1 1 true) 1 [out]:=Sx.Sl.lit (h:=h5) (Sx.Bf _) rfl rfl
 have lo5:=g5.lo
 obtain ⟨v7,h7,r1,r2,r3,r4,r5⟩:=Sx.Fm.AbQ (bytes:=24) (lo:=h.nx) (p3.gr g6) hs.src (by rfl) (by omega) (by simp [o1]) (by show h.nx<=h5.nx+1;omega)
 refine Sx.Ey r1 ?_
 clear r1
 rw [AwN]
 repeat' (first|with_reducible (first|apply A7|apply A8|apply A9|apply Ba)|(with_reducible (first|apply Cy|apply Cz|apply C0|apply C1);(conv=>lhs;simp (disch:=first|exact dA|fail) [lw, *]);with_reducible (first|apply A7|apply A8|apply A9|apply Ba|apply Cu|(refine Cv (by simp) ?_)|(apply Cw<;>intro hc<;>(try simp only [Bt] at hc)<;>(try (exfalso;omega)))))|(with_reducible (first|apply C2|apply C3|apply C4|apply C5)<;>intro hc<;>(try simp only [Bt] at hc)<;>(try (exfalso;omega))))
 refine hK v7 h7 _ ?_ ⟨?_,λb off len cap z ex hh h0=>?_,λp hp=>?_⟩
 . obtain ⟨m,hm,hg⟩:=(he.gr g5).gr g6
   exact ⟨m,hm,r3 _ (Nat.le_refl _) hg⟩
 . simpa using r4.sl
 . have:=W7.own r4 b off len cap z ex hh h0;omega
 . have kp:Sx.Bi hx h7:=(g5.trans g6).keeps.trans r2
   rcases List.mem_append.1 hp with hp|hp
   . obtain ⟨a1,a2,a3⟩:=st0 p hp
     exact ⟨Sx.Sl.By a1 kp,a2,a3⟩
   . rw [List.mem_singleton.1 hp]
     exact ⟨Sx.Sl.By ho.sl kp,⟨Am1 ho ht,ho.beh⟩,hR⟩
theorem Ato {tk b:Nat} {vl:AV} {h h1:H} {cs:List AV} (hc:Sx.Nv h b cs) (hb:b≠tk) (ht:Sx.H8 h tk vl) (e:Sx.TG tk vl h h1):Sx.Nv h1 b cs:=by
 obtain ⟨t,kk,p1,p2⟩:=hc.cells
 refine ⟨Nat.lt_of_lt_of_le hc.lt e.lo,t,kk,by rw [e.Cf b hc.lt hb];exact p1,?_⟩
 cases kk with
 |Cf c st=>
  by_cases hcc:c=tk
  . subst hcc
    obtain ⟨m,hm,hg⟩:=ht.cell
    have:=p2.2
    rw [hg] at this
    cases this
  . exact ⟨Nat.lt_of_lt_of_le p2.1 e.lo,by rw [e.Cf c p2.1 hcc];exact p2.2⟩
 |_=>trivial
theorem St.tg {tk lo:Nat} {vl v:AV} {h h1:H} {S:List (AV × List Nd)} (st:St tk lo h v S) (ht:Sx.H8 h tk vl) (e:Sx.TG tk vl h h1):St tk lo h1 v S:=
 ⟨Sx.Sl.tg st.sl ht st.av e,st.av,λp hp=>⟨Sx.Sl.tg (st.el p hp).1 ht (st.el p hp).2.1.1 e,(st.el p hp).2⟩⟩
theorem St.By {tk lo:Nat} {v:AV} {h h1:H} {S:List (AV × List Nd)} (st:St tk lo h v S) (e:Sx.Bi h h1):St tk lo h1 v S:=
 ⟨Sx.Sl.By st.sl e,st.av,λp hp=>⟨Sx.Sl.By (st.el p hp).1 e,(st.el p hp).2⟩⟩
set_option maxHeartbeats 1000000 in
theorem A9u (Fg:R38 ctx) (tk:Nat) (vl:AV) (L:List Int) (h:H) (hi:H9 tk vl L h) (lv v out:AV) (S0 A:List (AV × List Nd)) (B:List Nd) (hB:B≠[]) (hBl:B.length<=900) (y:Nd) (nx:Int) (b7:Nat) (i n:Nat) (Wj:i<=1000) (f0:L2) (hx:H) (he:Sx.TG tk vl h hx) (c7:Sx.Nv hx b7 (Bw y)) (n7:b7≠tk) (st:St tk h.nx hx v (S0++A)) (ho:Oo h.nx hx out B) (hS:S0.length<=1000) (hA:A.length<=3) {Q:AV->H->Prop}
 (hK:∀(R:List Nd) (w v':AV) (hy:H) (f:L2),(R=B\/(nx≠3/\y.op≠3/\R=B++[⟨dbl y.op,0,[]⟩,⟨dbl y.op,0,[]⟩]))->Sx.TG tk vl h hy->St tk h.nx hy v' (S0++[(w,R)])->Sx.Ah Sx.H0 Q (O0 ctx N n (.ptr tk 0) lv v' (.int .i64 ((i:Int)+1)) f hy)):
 Sx.Ah Sx.H0 Q (Ag8 ctx N n (.ptr tk 0) lv v (.int .i64 i) (.ptr b7 0) (.int .i64 (A.length:Int)) out (.int .i64 nx) f0 hx):=by
 have hT:∀(k:Int) (hx:H),Sx.TG tk vl h hx->k<=9223372036854775807->Sx.D6 tk vl hx (Below k) (ctx.call 38 [.ptr tk 0,.int .i64 k] hx):=λk hx e hk=>
  Fg tk vl L k hx (hi.tg e).at' (hi.tg e).ints hi.av hi.len hk
 have B6:=hi.at'.lt
 have x7:∀hh,Sx.Bi hx hh->Ae (some none) (.ptr b7 0) hh=.ok (.int .i64 y.op) hh:=c7.one rfl
 have hlen:∀hh,Fo out hh=.ok (.int .i64 (B.length:Int)) hh:=λ_=>ho.sl.Gs
 have hF:∀(hz:H) (f:L2),Sx.TG tk vl hx hz->Sx.Ah Sx.H0 Q (Ag9 ctx N n (.ptr tk 0) lv v (.int .i64 i) (.int .i64 (A.length:Int)) out f hz):=λhz f e=>
  A41 ctx N tk vl h B6 lv v out S0 A B hB i n Wj f hz (he.trans e) (st.tg (he.at B6) e) (ho.tg (he.at B6) B6 e) hS hA λv' hy f e2 s2=>hK B out v' hy f (.inl rfl) e2 s2
 have hD:∀(hz:H) (f:L2),Sx.TG tk vl hx hz->nx≠3->y.op≠3->Sx.Ah Sx.H0 Q (AkX ctx N n (.ptr tk 0) lv v (.int .i64 i) (.int .i64 (A.length:Int)) out (.int .i64 (dbl y.op)) f hz):=by
  intro hz f e n1 n2
  obtain ⟨v4,h4,p1,p2,p3,p4⟩:=Aus ⟨dbl y.op,0,[]⟩ ⟨dbl y.op,0,[]⟩ (he.trans e) (ho.tg (he.at B6) B6 e) (by omega)
  rw [AwL]
  repeat' (first|with_reducible (first|apply A7|apply A8|apply A9|apply Ba)|(with_reducible (first|apply Cy|apply Cz|apply C0|apply C1);(conv=>lhs;simp (disch:=first|exact dA|fail) [lw, *]);with_reducible (first|apply A7|apply A8|apply A9|apply Ba|apply Cu|(refine Cv (by simp) ?_)|(apply Cw<;>intro hc<;>(try simp only [Bt] at hc)<;>(try (exfalso;omega)))))|(with_reducible (first|apply C2|apply C3|apply C4|apply C5)<;>intro hc<;>(try simp only [Bt] at hc)<;>(try (exfalso;omega))))
  refine Sx.Ey p1 ?_
  exact A41 ctx N tk vl h B6 lv v v4 S0 A _ (by simp) i n Wj _ h4 p2 ((st.tg (he.at B6) e).By p4) p3 hS hA λv' hy f e2 s2=>hK _ v4 v' hy f (.inr ⟨n1,n2,rfl⟩) e2 s2
 have te:=Sx.TG.refl (he.at B6)
 replace hF:=(show F5 _ from hF)
 replace hD:=(show F5 _ from hD)
 clear hK st ho
 rw [AwK]
 repeat' (first|with_reducible (first|apply A7|apply A8|apply A9|apply Ba)|((with_reducible apply Sx.M5);exact hT _ _ Sx.L5 (by omega);intro vv hh ee E8 Bu qq;(try simp only [C9] at E8 Bu);obtain ⟨jj,rfl,j0,j1⟩:=qq)|(with_reducible (first|apply Cy|apply Cz|apply C0|apply C1);(conv=>lhs;simp (disch:=first|exact dA|fail) [lw, *,x7,hlen]);with_reducible (first|apply A7|apply A8|apply A9|apply Ba|apply Cu|(refine Cv (by simp) ?_)|(apply Cw<;>intro hc<;>(try simp only [Bt] at hc)<;>(try (exfalso;omega)))))|(with_reducible (first|apply C2|apply C3|apply C4|apply C5)<;>intro hc<;>(try simp only [Bt] at hc)<;>(try (exfalso;omega))))
 . have x8:∀hz,Sx.Bi hh hz->Ae (some none) (.ptr b7 0) hz=.ok (.int .i64 y.op) hz:=(Ato c7 n7 (he.at B6) (show Sx.TG tk vl hx hh from Sx.L5)).one rfl
   have n1:nx≠3:=by assumption
   have n2:y.op≠3:=by assumption
   by_cases hc9:(9:Int)<=y.op
   . have k9:decide ((9:Int)<=y.op)=true:=decide_eq_true hc9
     have e17:dbl y.op=17:=if_pos hc9
     clear x7
     rw [e17] at hD
     repeat' (first|with_reducible (first|apply A7|apply A8|apply A9|apply Ba)|(with_reducible (first|apply Cy|apply Cz|apply C0|apply C1);(conv=>lhs;simp (disch:=first|exact dA|fail) [lw, *,x8,k9]);with_reducible (first|apply A7|apply A8|apply A9|apply Ba|apply Cu|(refine Cv (by simp) ?_)|(apply Cw<;>intro hc<;>(try simp only [Bt] at hc)<;>(try (exfalso;omega)))))|(with_reducible (first|apply Kl|apply Km);(conv=>lhs;simp only [zw,k9]))|(with_reducible (first|apply C2|apply C3|apply C4|apply C5)<;>intro hc<;>(try simp only [Bt] at hc)<;>(try (exfalso;omega))))
     exact (show ∀(hz:H) (f:L2),_ from hD) hh _ Sx.L5 n1 n2
   . have k9:decide ((9:Int)<=y.op)=false:=decide_eq_false hc9
     have e17:dbl y.op=7:=if_neg hc9
     clear x7
     rw [e17] at hD
     repeat' (first|with_reducible (first|apply A7|apply A8|apply A9|apply Ba)|(with_reducible (first|apply Cy|apply Cz|apply C0|apply C1);(conv=>lhs;simp (disch:=first|exact dA|fail) [lw, *,x8,k9]);with_reducible (first|apply A7|apply A8|apply A9|apply Ba|apply Cu|(refine Cv (by simp) ?_)|(apply Cw<;>intro hc<;>(try simp only [Bt] at hc)<;>(try (exfalso;omega)))))|(with_reducible (first|apply Kl|apply Km);(conv=>lhs;simp only [zw,k9]))|(with_reducible (first|apply C2|apply C3|apply C4|apply C5)<;>intro hc<;>(try simp only [Bt] at hc)<;>(try (exfalso;omega))))
     exact (show ∀(hz:H) (f:L2),_ from hD) hh _ Sx.L5 n1 n2
 all_goals exact (show ∀(hz:H) (f:L2),_ from hF) _ _ Sx.L5
def AdT (l:List Nd) (i:Nat):Int:=match l[i+1]? with|some y=>y.op|none=>0
set_option maxHeartbeats 1000000 in
theorem AlM (Fg:R38 ctx) (tk:Nat) (vl:AV) (L:List Int) (h:H) (hi:H9 tk vl L h) (lv v t9:AV) (l:List Nd) (S4:l.length<=1000) (S0 A W:List (AV × List Nd)) (y:Nd) (b7:Nat) (i n:Nat) (Wj:i<=1000) (hx:H) (hlv:Ue hx lv l) (c7:Sx.Nv hx b7 (Bw y)) (n7:b7≠tk) (st:St tk h.nx hx v (S0++A)) (hS:S0.length<=1000) (hA:A.length<=3) (m:Int) (hm:(A.length:Int)=m) (hAW:A.length=W.length) (hW:((W.map (·.2)).flatten).length<=880)
 (AtG:∀(k:Nat) p,W[k]?=some p->∃b o,(∀hh,Gc 1 t9 (.int .i64 (k:Int)) hh=.ok (.ptr b o) hh)/\∀hh,Sx.Bi hx hh->Ae (some none) (.ptr b o) hh=.ok p.1 hh) (hel:∀p∈W,Ue hx p.1 p.2/\p.2≠[]) {Q:AV->H->Prop}
 (hK:∀(R:List Nd) (w v':AV) (hy:H) (f:L2),(R=(W.map (·.2)).flatten++[y]\/(AdT l i≠3/\y.op≠3/\R=((W.map (·.2)).flatten++[y])++[⟨dbl y.op,0,[]⟩,⟨dbl y.op,0,[]⟩]))->Sx.TG tk vl h hy->St tk h.nx hy v' (S0++[(w,R)])->Sx.Ah Sx.H0 Q (O0 ctx N n (.ptr tk 0) lv v' (.int .i64 ((i:Int)+1)) f hy)):
 ∀(k j n2:Nat) (ji:Int) (out:AV) (hc:H) (f0:L2),(j:Int)=ji->j+k=W.length->k<n2->Sx.TG tk vl h hc->Sx.Bi hx hc->Oo h.nx hc out ((W.take j).map (·.2)).flatten->Sx.Ah Sx.H0 Q (Alf ctx N n n2 (.ptr tk 0) lv v (.int .i64 i) (.ptr b7 0) (.int .i64 m) t9 out (.int .i64 ji) f0 hc)
 |0,j,n2,ji,out,hc,f0,hji,hjk,S3,he,hk,ho=>by
  obtain ⟨n3,rfl⟩:∃n3,n2=n3+1:=⟨n2 - 1,by omega⟩
  have k1:decide (ji<m)=false:=decide_eq_false (by omega)
  have ho':Oo h.nx hc out (W.map (·.2)).flatten:=by
   rw [List.take_of_length_le (by omega)] at ho
   exact ho
  have x7:∀hh,Sx.Bi hc hh->Ae (some (some 3)) (.ptr b7 0) hh=.ok (.agg (Bw y)) hh:=(hk.cont _ _ c7).many (by simp) rfl
  have hlen:∀hh,Fo lv hh=.ok (.int .i64 (l.length:Int)) hh:=λ_=>hlv.Gs
  obtain ⟨v1,h1,p1,p2,p3,p4⟩:=Aur y he ho' (by omega)
  have Cg:∀(hz:H) (f:L2),hz=h1->Sx.Ah Sx.H0 Q (Ag8 ctx N n (.ptr tk 0) lv v (.int .i64 i) (.ptr b7 0) (.int .i64 m) v1 (.int .i64 (AdT l i)) f hz):=by
   intro hz f hh
   subst hh
   rw [<- hm]
   exact A9u ctx N Fg tk vl L h hi lv v v1 S0 A _ (by simp) (by simp only [List.length_append,List.length_singleton];omega) y (AdT l i) b7 i n Wj f hz p2 ((hk.trans p4).cont _ _ c7) n7 (st.By (hk.trans p4)) p3 hS hA hK
  rw [Apc]
  clear hK st ho ho' AtG hel hW hAW hm hji hjk
  obtain ⟨ii,hii⟩:∃ii:Int,(i:Int)=ii:=⟨_,rfl⟩
  obtain ⟨ll,AtJ⟩:∃ll:Int,(l.length:Int)=ll:=⟨_,rfl⟩
  rw [hii] at Cg ⊢
  rw [AtJ] at hlen
  cases hn:decide (ii+1<ll) with
  |false=>
   have hnx:AdT l i=0:=by
    unfold AdT
    rw [List.getElem?_eq_none (by have:=of_decide_eq_false hn;omega)]
   repeat' (first|with_reducible (first|apply A7|apply A8|apply A9|apply Ba)|(with_reducible (first|apply Cy|apply Cz|apply C0|apply C1);(conv=>lhs;simp (disch:=first|exact dA|fail) [lw, *,k1,x7,hlen,hn,p1]);with_reducible (first|apply A7|apply A8|apply A9|apply Ba|apply Cu|(refine Cv (by simp) ?_)|(apply Cw<;>intro hc<;>(try simp only [Bt] at hc)<;>(try (exfalso;omega)))))|(with_reducible (first|apply Kl|apply Km);(conv=>lhs;simp only [zw,k1,hn]))|(with_reducible (first|apply C2|apply C3|apply C4|apply C5)<;>intro hc<;>(try simp only [Bt] at hc)<;>(try (exfalso;omega))))
   rw [hnx] at Cg
   exact Cg _ _ rfl
  |true=>
   have B6:=of_decide_eq_true hn
   obtain ⟨z,hz⟩:∃z,l[i+1]?=some z:=⟨_,List.getElem?_eq_getElem (by omega)⟩
   have hnx:AdT l i=z.op:=by unfold AdT;rw [hz]
   obtain ⟨b,o,el⟩:=Sx.R0.elem (f:=Bw) (s:=3) (λ_=>rfl) (Sx.Sl.By hlv (hk.trans p4)) hz
   have x1:=el.ia
   rw [show ((i+1:Nat):Int)=ii+1 by omega] at x1
   have x2:=el.part 0 _ rfl
   rw [Nat.add_zero] at x2
   repeat' (first|with_reducible (first|apply A7|apply A8|apply A9|apply Ba)|(with_reducible (first|apply Cy|apply Cz|apply C0|apply C1);(conv=>lhs;simp (disch:=first|exact dA|fail) [lw, *,k1,x7,hlen,hn,x1,x2,p1]);with_reducible (first|apply A7|apply A8|apply A9|apply Ba|apply Cu|(refine Cv (by simp) ?_)|(apply Cw<;>intro hc<;>(try simp only [Bt] at hc)<;>(try (exfalso;omega)))))|(with_reducible (first|apply Kl|apply Km);(conv=>lhs;simp only [zw,k1,hn]))|(with_reducible (first|apply C2|apply C3|apply C4|apply C5)<;>intro hc<;>(try simp only [Bt] at hc)<;>(try (exfalso;omega))))
   rw [hnx] at Cg
   exact Cg _ _ rfl
 |k+1,j,n2,ji,out,hc,f0,hji,hjk,S3,he,hk,ho=>by
  obtain ⟨n3,rfl⟩:∃n3,n2=n3+1:=⟨n2 - 1,by omega⟩
  have ih:=AlM Fg tk vl L h hi lv v t9 l S4 S0 A W y b7 i n Wj hx hlv c7 n7 st hS hA m hm hAW hW AtG hel hK k (j+1) n3
  have k1:decide (ji<m)=true:=decide_eq_true (by omega)
  obtain ⟨p,hp⟩:∃p,W[j]?=some p:=⟨_,List.getElem?_eq_getElem (by omega)⟩
  obtain ⟨b,o,x1,x2⟩:=AtG j p hp
  rw [hji] at x1
  obtain ⟨e1,e2⟩:=hel p (List.mem_of_getElem? hp)
  have htk:W.take (j+1)=W.take j++[p]:=by
   have:=List.getElem?_eq_some_iff.1 hp
   obtain ⟨h1,h2⟩:=this
   rw [<- h2,List.take_append_getElem]
  have hle:((W.take j).map (·.2)).flatten.length+p.2.length<=880:=by
   have h1:=congrArg (λw:List (AV × List Nd)=>((w.map (·.2)).flatten).length) (List.take_append_drop (j+1) W)
   simp only [htk,List.map_append,List.flatten_append,List.length_append,List.map_cons,List.map_nil,List.flatten_cons,List.flatten_nil,List.length_nil] at h1
   omega
  obtain ⟨v1,h1,p1,p2,p3,p4⟩:=AfV he ho (Sx.Sl.By e1 hk) e2 (by omega)
  rw [Apc]
  have hj:j<=10:=by omega
  clear hK st ho AtG
  repeat' (first|with_reducible (first|apply A7|apply A8|apply A9|apply Ba)|(with_reducible (first|apply Cy|apply Cz|apply C0|apply C1);(conv=>lhs;simp (disch:=first|exact dA|fail) [lw, *,k1,x1,x2,p1]);with_reducible (first|apply A7|apply A8|apply A9|apply Ba|apply Cu|(refine Cv (by simp) ?_)|(apply Cw<;>intro hc<;>(try simp only [Bt] at hc)<;>(try (exfalso;omega)))))|(with_reducible (first|apply Kl|apply Km);(conv=>lhs;simp only [zw,k1]))|(with_reducible (first|apply C2|apply C3|apply C4|apply C5)<;>intro hc<;>(try simp only [Bt] at hc)<;>(try (exfalso;omega))))
  refine ih (ji+1) v1 h1 _ (by omega) (by omega) (by omega) p2 (hk.trans p4) ?_
  rw [htk]
  simpa using p3
end Go.Proofs
