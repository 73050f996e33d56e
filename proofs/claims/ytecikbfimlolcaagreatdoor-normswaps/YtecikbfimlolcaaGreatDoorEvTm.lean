/- Swap: one round. -/
import Derived.Test.YtecikbfimlolcaaGreatDoorEvTl
set_option maxRecDepth 100000
set_option linter.unusedSimpArgs false
set_option linter.unusedVariables false
noncomputable section
namespace Go.Proofs
open Go Go.Ev Go.Nm
attribute [local irreducible] Aa Al Af Ad
variable (ctx:Ac) (N:Nat)
theorem Axg {P:Program} {t e:TypeId} {s bytes k len:Nat} {h:H} {v:AV} {c:List AV} (hx:Hp P t=.sl ⟨e,s,bytes⟩) (hs:Sx.Sl s h v len c) (hk:k<len):∃v',(∀hh,xSl P t v (some (.int .i64 (k:Int))) none hh=.ok v' hh)/\Sx.Sl s h v' (len - k) (c.drop (k * s))/\∀tk,Sx.Av tk v->Sx.Av tk v':=by
 rcases hs with ⟨rfl,rfl,rfl⟩|⟨b,off,cap,ex,cs,rfl,q2,q3,q4,q5⟩
 . omega
 . have h5:k * s<=len * s:=Nat.mul_le_mul_right s (by omega)
   have h6:(len - k) * s=len * s - k * s:=Nat.sub_mul ..
   have Wh:c.drop (k * s)=(cs.drop (off+k * s)).take ((len - k) * s):=by rw [<- q5,List.drop_take,List.drop_drop,h6]
   refine ⟨_,λhh=>by rw [Sx.Aav hx,Sx.Nn (by omega) q2,if_pos (by omega)],.inr ⟨b,off+k * s,cap - k,ex,cs,rfl,by omega,q3,by omega,Wh.symm⟩,λtk ha b' Yk B1 Ll z ex' hh h0=>?_⟩
   cases hh
   exact ha _ _ _ _ _ _ rfl (by omega)
theorem St.src {tk lo:Nat} {h:H} {v:AV} {S0 A:List (AV × List Nd)} (st:St tk lo h v (S0++A)) (hA:A≠[]):∃v',(∀hh,xSl Tryz.prog 82 v (some (.int .i64 (S0.length:Int))) none hh=.ok v' hh)/\Sx.Sl 1 h v' A.length (A.map (·.1))/\Sx.Av tk v':=by
 have hp:0<A.length:=List.length_pos_iff.2 hA
 obtain ⟨v',q1,q2,q3⟩:=Axg (P:=Tryz.prog) (t:=82) (e:=22) (bytes:=24) (k:=S0.length) (by kernel_rfl) st.sl (by rw [List.length_append];omega)
 refine ⟨v',q1,?_,q3 _ st.av⟩
 have e1:(S0++A).length - S0.length=A.length:=by rw [List.length_append];omega
 have e2:((S0++A).map (·.1)).drop (S0.length * 1)=A.map (·.1):=by simp
 rw [e1,e2] at q2
 exact q2
theorem Uo {h:H} {t9:AV} {W:List (AV × List Nd)} (hs:Sx.Sl 1 h t9 W.length (W.map (·.1))) (k:Nat) (p:AV × List Nd) (hp:W[k]?=some p):∃b o,(∀hh,Gc 1 t9 (.int .i64 (k:Int)) hh=.ok (.ptr b o) hh)/\∀hh,Sx.Bi h hh->Ae (some none) (.ptr b o) hh=.ok p.1 hh:=by
 have hk:=(List.getElem?_eq_some_iff.1 hp).1
 obtain ⟨b,o,el⟩:=Sx.Sl.elem hs hk (l:=[p.1]) (by
  have:(W.map (·.1))[k]?=some p.1:=by simp [hp]
  rw [Nat.mul_one]
  obtain ⟨h1,h2⟩:=List.getElem?_eq_some_iff.1 this
  rw [List.drop_eq_getElem_cons h1,h2]
  rfl)
 have x2:=el.part 0 _ rfl
 rw [Nat.add_zero] at x2
 exact ⟨b,o,el.ia,x2⟩
theorem Qp {s c len:Nat} {h:H} {v:AV} {cs l l0:List AV} {e0 e1:TypeId} (hs:Sx.Sl s h v len cs) (ha:Sx.Av c v) (hg:h.m.get c=.cells l0 e0 .exact) (hl:l.length=l0.length):Sx.Sl s (h.put c (.cells l e1 .exact)) v len cs:=by
 refine Sl.AnO hs hg hl λh0 b off n cap z ex hv=>?_
 subst hv
 rcases hs with ⟨h3,_⟩|⟨b',Yk,Ll,ex',cs,h3,_⟩
 . omega
 . cases h3
   exact ha _ _ _ _ _ _ rfl h0
theorem St.put {tk lo c:Nat} {h:H} {v:AV} {S:List (AV × List Nd)} {l l0:List AV} {e0 e1:TypeId} (st:St tk lo h v S) (hv:Sx.Av c v) (hS:∀p∈S,Sx.Av c p.1) (hg:h.m.get c=.cells l0 e0 .exact) (hl:l.length=l0.length):St tk lo (h.put c (.cells l e1 .exact)) v S:=
 ⟨Qp st.sl hv hg hl,st.av,λp hp=>⟨Qp (st.el p hp).1 (hS p hp) hg hl,(st.el p hp).2⟩⟩
set_option maxHeartbeats 2000000 in
theorem AzN (Fg:R38 ctx) (h44:R44 ctx) (h45:R45 ctx) (hN:100<N) (tk:Nat) (vl:AV) (L:List Int) (h:H) (hi:H9 tk vl L h) (lv v:AV) (l:List Nd) (S4:l.length<=1000) (S0 A:List (AV × List Nd)) (x:Nd) (i:Nat) (Gb:l[i]?=some x) (hAx:(A.length:Int)=arI x.op) (n:Nat) (f0:L2) (hx:H) (he:Sx.TG tk vl h hx) (hlv:Ue hx lv l) (hav:Sx.Av tk lv) (st:St tk h.nx hx v (S0++A)) (hS:S0.length<=1000) (hW:((A.map (·.2)).flatten).length<=880) {Q:AV->H->Prop}
 (hK:∀(R:List Nd) (w v':AV) (hy:H) (f:L2),Step (A.map (·.2)) x (AdT l i=3) R->Sx.TG tk vl h hy->St tk h.nx hy v' (S0++[(w,R)])->Sx.Ah Sx.H0 Q (O0 ctx N n (.ptr tk 0) lv v' (.int .i64 ((i:Int)+1)) f hy)):
 Sx.Ah Sx.H0 Q (O0 ctx N (n+1) (.ptr tk 0) lv v (.int .i64 (i:Int)) f0 hx):=by
 have B6:=hi.at'.lt
 have hil:=(List.getElem?_eq_some_iff.1 Gb).1
 have hA3:A.length<=3:=by
  have:arI x.op<=3:=by
   unfold arI;repeat' split
   all_goals decide
  omega
 obtain ⟨b,o,el⟩:=Sx.R0.elem (f:=Bw) (s:=3) (λ_=>rfl) hlv Gb
 have x1:=el.ia
 have x2:=el.all
 have x3:=el.part 0 _ rfl
 rw [Nat.add_zero] at x3
 clear el
 obtain ⟨ii,hii⟩:∃ii:Int,(i:Int)=ii:=⟨_,rfl⟩
 have k1:decide (ii<(l.length:Int))=true:=decide_eq_true (by omega)
 have hlen:∀hh,Fo lv hh=.ok (.int .i64 (l.length:Int)) hh:=λ_=>hlv.Gs
 obtain ⟨ll,AtJ⟩:∃ll:Int,(l.length:Int)=ll:=⟨_,rfl⟩
 rw [AtJ] at hlen k1
 rw [hii] at x1
 have AaI:∀hh,Fo v hh=.ok (.int .i64 ((S0++A).length:Int)) hh:=λ_=>st.sl.Gs
 have Abm:E1 .i64 (((S0++A).length:Int) - arI x.op)=(S0.length:Int):=by
  rw [List.length_append]
  rw [Sx.Cr _ (by omega) (by omega)]
  omega
 obtain ⟨sl,Z3⟩:∃sl:Int,((S0++A).length:Int)=sl:=⟨_,rfl⟩
 obtain ⟨s0,hs0⟩:∃s0:Int,(S0.length:Int)=s0:=⟨_,rfl⟩
 rw [Z3] at AaI Abm
 rw [hs0] at Abm
 rw [hii,Apb]
 replace hK:=(show F5 _ from hK)
 have t0:=Sx.TG.refl (he.at B6)
 repeat' (first|with_reducible (first|apply A7|apply A8|apply A9|apply Ba)|((with_reducible (first|apply zc1|apply zc2));exact h44 _ _;intro vv hh ee E8 Bu qq;(first|(have eqt:=Sx.Ai.quiet ee;try simp only [C9] at E8 Bu eqt)|(try simp only [C9] at E8 Bu));subst qq)|(with_reducible (first|apply Cy|apply Cz|apply C0|apply C1);(conv=>lhs;simp (disch:=first|exact dA|fail) [lw, *,k1,hlen,x1,x2,x3]);with_reducible (first|apply A7|apply A8|apply A9|apply Ba|apply Cu|(refine Cv (by simp) ?_)|(apply Cw<;>intro hc<;>(try simp only [Bt] at hc)<;>(try (exfalso;omega)))))|(with_reducible (first|apply Kl|apply Km);(conv=>lhs;simp only [zw,k1]))|(with_reducible (first|apply C2|apply C3|apply C4|apply C5)<;>intro hc<;>(try simp only [Bt] at hc)<;>(try (exfalso;omega)))|(refine Sx.B8 ?_ ?_;(focus (simp (disch:=first|decide|omega|(simp only [C9];omega)) [Sx.Aw,Sx.Am,Sx.Ar,Sx.Ax, *];done));(try simp (disch:=first|exact Ce|fail) only [Sx.Aw,Sx.Am,Sx.Bx,Sx.Ap,Sx.At,List.nil_append,List.cons_append,Sx.B9,Sx.Dp,Sx.Dn,C9,Sx.Ca, *])))
 have gz:Sx.Ai hx (Be (hh.nx::hx.lg) (Ab ((Ab ((Ab hh).new (AO.cells [AV.int IntKind.i64 0,AV.int IntKind.i64 0,AV.str []] 32 CK.exact))).put hh.nx (AO.cells (Bw x) 32 CK.exact)))):=Ex
 have g7:(Be (hh.nx::hx.lg) (Ab ((Ab ((Ab hh).new (AO.cells [AV.int IntKind.i64 0,AV.int IntKind.i64 0,AV.str []] 32 CK.exact))).put hh.nx (AO.cells (Bw x) 32 CK.exact)))).m.get hh.nx=.cells (Bw x) 32 .exact:=Sx.A2 ..
 have nz:(Be (hh.nx::hx.lg) (Ab ((Ab ((Ab hh).new (AO.cells [AV.int IntKind.i64 0,AV.int IntKind.i64 0,AV.str []] 32 CK.exact))).put hh.nx (AO.cells (Bw x) 32 CK.exact)))).nx=hh.nx+1:=rfl
 generalize Be (hh.nx::hx.lg) _=hz at *
 have heb:=he.lo
 generalize hb7:hh.nx=b7 at *
 have n7:b7≠tk:=by omega
 have ez:Sx.TG tk vl h hz:=he.gr gz
 have stz:=st.By gz.keeps
 have lvz:Ue hz lv l:=Sx.Sl.By hlv gz.keeps
 have avv:Sx.Av b7 v:=Sl.av st.sl E8
 have avS:∀p∈S0++A,Sx.Av b7 p.1:=λp hp=>Sl.av (st.el p hp).1 E8
 have avl:Sx.Av b7 lv:=Sl.av hlv E8
 have ApS:∀(hy:H) (y:Nd) (W:List (AV × List Nd)) (t9:AV) (f:L2),Sx.TG tk vl h hy->b7<hy.nx->St tk h.nx hy v (S0++A)->Ue hy lv l->A.length=W.length->((W.map (·.2)).flatten).length<=880->hy.m.get b7=.cells (Bw y) 32 .exact->(W≠[]->Sx.Sl 1 hy t9 W.length (W.map (·.1)))->(∀p∈W,p∈A)->AwB (A.map (·.2)) x (W.map (·.2)).flatten y->Sx.Ah Sx.H0 Q (AbI ctx N n (.ptr tk 0) lv v (.int .i64 ii) (.ptr b7 0) (.int .i64 (arI x.op)) t9 f hy):=by
  intro hy y W t9 f ty tl sty lvy a1 a2 a3 a4 a5 a6
  have c7:Sx.Nv hy b7 (Bw y):=⟨by omega,32,.exact,a3,trivial⟩
  rw [AwJ,<- hii]
  refine AlM ctx N Fg tk vl L h hi lv v t9 l S4 S0 A W y b7 i n (by omega) hy lvy c7 n7 sty hS hA3 (arI x.op) hAx a1 a2 (λk p hp=>Uo (a4 (λhh=>by rw [hh] at hp;cases hp)) k p hp) (λp hp=>by obtain ⟨b1,b2,b3⟩:=sty.el p (List.mem_append_right _ (a5 p hp));exact ⟨b1,b3⟩) ?_ W.length 0 N 0 .Bv hy _ rfl (by omega) (by omega) ty (Sx.Bi.refl hy) (.inl (Sx.Fm.nil ..))
  intro R w v' hy2 f2 hR e2 s2
  refine (show ∀(R:List Nd) (w v':AV) (hy:H) (f:L2),_ from hK) R w v' hy2 f2 ⟨_,y,a6,?_⟩ e2 s2
  rcases hR with hR|⟨r1,r2,r3⟩
  . exact .inl hR
  . exact .inr ⟨r1,r2,r3⟩
 have fin:∀(hy:H) (y:Nd) (W:List (AV × List Nd)) (t9:AV) (f:L2),Sx.TG tk vl hz hy->A.length=W.length->((W.map (·.2)).flatten).length<=880->hy.m.get b7=.cells (Bw y) 32 .exact->(W≠[]->Sx.Sl 1 hy t9 W.length (W.map (·.1)))->(∀p∈W,p∈A)->AwB (A.map (·.2)) x (W.map (·.2)).flatten y->Sx.Ah Sx.H0 Q (AbI ctx N n (.ptr tk 0) lv v (.int .i64 ii) (.ptr b7 0) (.int .i64 (arI x.op)) t9 f hy):=by
  intro hy y W t9 f ty a1 a2 a3 a4 a5 a6
  have tl:=ty.lo
  exact ApS hy y W t9 f (ez.trans ty) (by omega) (stz.tg (ez.at B6) ty) (Sx.Sl.tg lvz (ez.at B6) hav ty) a1 a2 a3 a4 a5 a6
 replace ApS:=(show F5 _ from ApS)
 replace fin:=(show F5 _ from fin)
 have tz0:=Sx.TG.refl (ez.at B6)
 have hlz:tk<hz.nx:=by omega
 have hT:∀(k:Int) (hy:H),Sx.TG tk vl hz hy->k<=9223372036854775807->Sx.D6 tk vl hy (Below k) (ctx.call 38 [.ptr tk 0,.int .i64 k] hy):=λk hx e hk=>
  Fg tk vl L k hx (hi.tg (ez.trans e)).at' (hi.tg (ez.trans e)).ints hi.av hi.len hk
 clear hK x1 x2 x3 h44 Fg hlen AaI Abm ee Bu eqt t0
 by_cases h2:arI x.op=2
 . obtain ⟨a,c,rfl⟩:∃a c,A=[a,c]:=by
    match A,(show A.length=2 by omega) with
    |[a,c],_=>exact ⟨a,c,rfl⟩
   obtain ⟨t9,q1,q2,q3⟩:=stz.src (S0:=S0) (A:=[a,c]) (by simp)
   rw [hs0] at q1
   obtain ⟨b1,o1,y1,y2⟩:=Uo q2 1 c rfl
   obtain ⟨b0,o0,y3,y4⟩:=Uo q2 0 a rfl
   replace y1:∀hh,Gc 1 t9 (.int .i64 1) hh=.ok (.ptr b1 o1) hh:=y1
   replace y3:∀hh,Gc 1 t9 (.int .i64 0) hh=.ok (.ptr b0 o0) hh:=y3
   obtain ⟨c1,c2,c3⟩:=stz.el c (by simp)
   obtain ⟨a1,a2,a3⟩:=stz.el a (by simp)
   obtain ⟨d1,d2⟩:=B2 c1
   obtain ⟨d3,d4⟩:=B2 a1
   have hcp:0<c.2.length:=List.length_pos_iff.2 c3
   have Ox:∀hh,Fo c.1 hh=.ok (.int .i64 (c.2.length:Int)) hh:=λ_=>c1.Gs
   have hcb:c.2.length<=880:=by
    simp at hW
    omega
   obtain ⟨z,hz1⟩:∃z,c.2.getLast?=some z:=by
    cases hh:c.2.getLast? with
    |none=>rw [List.getLast?_eq_none_iff] at hh;exact absurd hh c3
    |some z=>exact ⟨z,rfl⟩
   have hz2:c.2[c.2.length - 1]?=some z:=by rw [<- hz1,List.getLast?_eq_getElem?]
   obtain ⟨b5,o5,el⟩:=Sx.R0.elem (f:=Bw) (s:=3) (λ_=>rfl) c1 hz2
   have y5:=el.ia
   have y6:=el.part 0 _ rfl
   rw [Nat.add_zero] at y6
   obtain ⟨cl,AmW⟩:∃cl:Int,(c.2.length:Int)=cl:=⟨_,rfl⟩
   rw [show ((c.2.length - 1:Nat):Int)=cl - 1 by omega] at y5
   rw [AmW] at Ox
   have Abm:E1 .i64 (cl - 1)=cl - 1:=Sx.Cr _ (by omega) (by omega)
   clear el hz2
   have k2:decide (arI x.op=2)=true:=decide_eq_true h2
   have AxU:∀(hw hy:H) (t9:AV) (f:L2),Sx.TG tk vl hz hw->Sx.Ai hw hy->hw.m.get b7=.cells (Bw x) 32 .exact->flI x.op≠0->z.op≠3->Sx.Sl 1 (hy.put b7 (.cells (Bw ⟨flI x.op,x.n,x.Zn⟩) 32 .exact)) t9 2 [c.1,a.1]->Sx.Ah Sx.H0 Q (AbI ctx N n (.ptr tk 0) lv v (.int .i64 ii) (.ptr b7 0) (.int .i64 (arI x.op)) t9 f (hy.put b7 (.cells (Bw ⟨flI x.op,x.n,x.Zn⟩) 32 .exact))):=by
    intro hw hy t9 f tw gy gb r1 r2 hs
    have gb':hy.m.get b7=.cells (Bw x) 32 .exact:=(gy.Cf b7 (by have:=tw.lo;omega)).trans gb
    have ty:=tw.gr gy
    have tl:=ty.lo
    exact (show ∀(hy:H) (y:Nd) (W:List (AV × List Nd)) (t9:AV) (f:L2),_ from ApS) _ ⟨flI x.op,x.n,x.Zn⟩ [c,a] t9 f ((ez.trans ty).Aiq b7 _ (by omega)) (show b7<hy.nx by omega) ((stz.tg (ez.at B6) ty).put avv avS gb' rfl) (Qp (Sx.Sl.tg lvz (ez.at B6) hav ty) avl gb' rfl) rfl (by simp at hW ⊢;omega) (Sx.A2 ..) (λ_=>hs) (λp hp=>by simp at hp ⊢;exact hp.symm) (.inr ⟨a.2,c.2,z,rfl,hz1,r2,r1,by simp,rfl⟩)
   replace AxU:=(show F5 _ from AxU)
   clear c1 c2 c3 a1 a2 a3 hcp hcb stz lvz he gz avv avS avl ApS
   generalize hfl:flI x.op=fl at *
   generalize arI x.op=ar at *
   subst h2
   have Afv:∀(hy:H) (f:L2),Sx.TG tk vl hz hy->hy.m.get b7=.cells (Bw x) 32 .exact->Sx.Ah Sx.H0 Q (AbI ctx N n (.ptr tk 0) lv v (.int .i64 ii) (.ptr b7 0) (.int .i64 2) t9 f hy):=λhy f g g8=>
    (show ∀(hy:H) (y:Nd) (W:List (AV × List Nd)) (t9:AV) (f:L2),_ from fin) _ x [a,c] t9 _ g rfl hW g8 (λhA=>Sx.Sl.tg q2 (ez.at B6) q3 g) (λp hp=>hp) (.inl ⟨rfl,rfl⟩)
   replace Afv:=(show F5 _ from Afv)
   by_cases hz3:z.op=3
   . have k3:decide (z.op=3)=true:=decide_eq_true hz3
     generalize hzo:z.op=zo at *
     repeat' (first|with_reducible (first|apply A7|apply A8|apply A9|apply Ba)|(with_reducible (first|apply Cy|apply Cz|apply C0|apply C1);(conv=>lhs;simp (disch:=first|exact dA|fail) [lw, *,q1,k2,k3,y1,y2,y5,y6,Ox,Abm]);with_reducible (first|apply A7|apply A8|apply A9|apply Ba|apply Cu|(refine Cv (by simp) ?_)|(apply Cw<;>intro hc<;>(try simp only [Bt] at hc)<;>(try (exfalso;omega)))))|(with_reducible (first|apply Kl|apply Km);(conv=>lhs;simp only [zw,k2,k3,Bool.not_true,Bool.not_false]))|(with_reducible (first|apply C2|apply C3|apply C4|apply C5)<;>intro hc<;>(try simp only [Bt] at hc)<;>(try (exfalso;omega)))|(refine Sx.B8 ?_ ?_;(focus (simp (disch:=first|decide|omega|(simp only [C9];omega)) [Sx.Aw,Sx.Am,Sx.Ar,Sx.Ax, *];done));(try simp (disch:=first|exact Ce|fail) only [Sx.Aw,Sx.Am,Sx.Bx,Sx.Ap,Sx.At,List.nil_append,List.cons_append,Sx.B9,Sx.Dp,Sx.Dn,C9,Sx.Ca, *])))
     exact (show ∀(hy:H) (f:L2),_ from Afv) _ _ (tz0.gr (Sx.Ai.Be (Sx.Ai.refl hz).nl (Sx.Ai.refl hz))) g7
   . have k3:decide (z.op=3)=false:=decide_eq_false hz3
     have x7:∀hy,Sx.Bi hz hy->Ae (some none) (.ptr b7 0) hy=.ok (.int .i64 x.op) hy:=λhy e=>by
      rw [Sx.Nu,(e.cont b7 (Bw x) ⟨by omega,32,.exact,g7,trivial⟩).rd];rfl
     have At6:=h45 x.op
     rw [hfl] at At6
     clear h45
     by_cases hf:fl=0
     . have k4:decide (fl=0)=true:=decide_eq_true hf
       generalize hzo:z.op=zo at *
       generalize hxo:x.op=xo at *
       repeat' (first|with_reducible (first|apply A7|apply A8|apply A9|apply Ba)|((with_reducible (first|apply zc1|apply zc2));exact At6 _;intro vv hh ee E8 Bu qq;(first|(have eqt:=Sx.Ai.quiet ee;try simp only [C9] at E8 Bu eqt)|(try simp only [C9] at E8 Bu));subst qq)|(with_reducible (first|apply Cy|apply Cz|apply C0|apply C1);(conv=>lhs;simp (disch:=first|exact dA|fail) [lw, *,q1,k2,k3,k4,y1,y2,y5,y6,Ox,Abm,x7]);with_reducible (first|apply A7|apply A8|apply A9|apply Ba|apply Cu|(refine Cv (by simp) ?_)|(apply Cw<;>intro hc<;>(try simp only [Bt] at hc)<;>(try (exfalso;omega)))))|(with_reducible (first|apply Kl|apply Km);(conv=>lhs;simp only [zw,k2,k3,k4,Bool.not_true,Bool.not_false]))|(with_reducible (first|apply C2|apply C3|apply C4|apply C5)<;>intro hc<;>(try simp only [Bt] at hc)<;>(try (exfalso;omega)))|(refine Sx.B8 ?_ ?_;(focus (simp (disch:=first|decide|omega|(simp only [C9];omega)) [Sx.Aw,Sx.Am,Sx.Ar,Sx.Ax, *];done));(try simp (disch:=first|exact Ce|fail) only [Sx.Aw,Sx.Am,Sx.Bx,Sx.Ap,Sx.At,List.nil_append,List.cons_append,Sx.B9,Sx.Dp,Sx.Dn,C9,Sx.Ca, *])))
       refine Sx.Pu tk hz.nx ?_ λLz hLz=>?_
       . simp only [List.forall_mem_cons,List.not_mem_nil,false_imp_iff,implies_true,and_true]
         repeat' (refine And.intro ?_ ?_)
         all_goals first|(left;exact Sx.Ai.quiet (by assumption))|(left;simp;done)|(left;rfl)|(refine .inr ⟨λx hx=>.inl (Sx.TG.wrote (by assumption) x hx),?_⟩;(repeat' (refine And.intro ?_ ?_));all_goals first|(exact Sx.Ar ..)|(refine Sx.Ax _ _ _ _ _ _ _ _ _ _ _ _ ?_;decide)|exact Sx.Ci ..)
       . repeat' (first|with_reducible (first|apply A7|apply A8|apply A9|apply Ba)|(with_reducible (first|apply Cy|apply Cz|apply C0|apply C1);(conv=>lhs;simp (disch:=first|exact dA|fail) [lw, *]);with_reducible (first|apply A7|apply A8|apply A9|apply Ba|apply Cu|(refine Cv (by simp) ?_)|(apply Cw<;>intro hc<;>(try simp only [Bt] at hc)<;>(try (exfalso;omega)))))|(with_reducible (first|apply Kl|apply Km);(conv=>lhs;simp only [zw,Bool.not_true,Bool.not_false]))|(with_reducible (first|apply C2|apply C3|apply C4|apply C5)<;>intro hc<;>(try simp only [Bt] at hc)<;>(try (exfalso;omega))))
         exact (show ∀(hy:H) (f:L2),_ from Afv) _ _ (Sx.TG.reL tz0 Sx.L5 hLz) ((Bu b7 (by omega)).trans g7)
     . have k4:decide (fl=0)=false:=decide_eq_false hf
       generalize hzo:z.op=zo at *
       generalize hxo:x.op=xo at *
       repeat' (first|with_reducible (first|apply A7|apply A8|apply A9|apply Ba)|((with_reducible (first|apply zc1|apply zc2));exact At6 _;intro vv hh ee E8 Bu qq;(first|(have eqt:=Sx.Ai.quiet ee;try simp only [C9] at E8 Bu eqt)|(try simp only [C9] at E8 Bu));subst qq)|((with_reducible apply Sx.M5);exact hT _ _ Sx.L5 (by omega);intro vv hh ee E8 Bu qq;(try simp only [C9] at E8 Bu);obtain ⟨jj,rfl,j0,j1⟩:=qq)|(with_reducible (first|apply Cy|apply Cz|apply C0|apply C1);(conv=>lhs;simp (disch:=first|exact dA|fail) [lw, *,q1,k2,k3,k4,y1,y2,y5,y6,Ox,Abm,x7]);with_reducible (first|apply A7|apply A8|apply A9|apply Ba|apply Cu|(refine Cv (by simp) ?_)|(apply Cw<;>intro hc<;>(try simp only [Bt] at hc)<;>(try (exfalso;omega)))))|(with_reducible (first|apply Kl|apply Km);(conv=>lhs;simp only [zw,k2,k3,k4,Bool.not_true,Bool.not_false]))|(with_reducible (first|apply C2|apply C3|apply C4|apply C5)<;>intro hc<;>(try simp only [Bt] at hc)<;>(try (exfalso;omega)))|(refine Sx.B8 ?_ ?_;(focus (simp (disch:=first|decide|omega|(simp only [C9];omega)) [Sx.Aw,Sx.Am,Sx.Ar,Sx.Ax, *];done));(try simp (disch:=first|exact Ce|fail) only [Sx.Aw,Sx.Am,Sx.Bx,Sx.Ap,Sx.At,List.nil_append,List.cons_append,Sx.B9,Sx.Dp,Sx.Dn,C9,Sx.Ca, *])))
       refine Sx.Pu tk hz.nx ?_ λLz hLz=>?_
       . simp only [List.forall_mem_cons,List.not_mem_nil,false_imp_iff,implies_true,and_true]
         repeat' (refine And.intro ?_ ?_)
         all_goals first|(left;exact Sx.Ai.quiet (by assumption))|(left;simp;done)|(left;rfl)|(refine .inr ⟨λx hx=>.inl (Sx.TG.wrote (by assumption) x hx),?_⟩;(repeat' (refine And.intro ?_ ?_));all_goals first|(exact Sx.Ar ..)|(refine Sx.Ax _ _ _ _ _ _ _ _ _ _ _ _ ?_;decide)|exact Sx.Ci ..)
       . generalize hE:Be Lz _=hw
         have tw:Sx.TG tk vl hz hw:=by rw [<- hE];refine Sx.TG.reL ?_ ?_ hLz<;>exact Sx.L5
         have gw:hw.m.get b7=.cells (Bw x) 32 .exact:=(tw.Cf b7 (by omega) n7).trans g7
         clear hE hLz
         have lw':=tw.lo
         by_cases hj:jj=1
         . have q2w:=Sx.Sl.tg q2 (ez.at B6) q3 tw
           obtain ⟨b1,o1,y1,y2⟩:=Uo (W:=[a,c]) q2w 1 c rfl
           obtain ⟨b0,o0,y3,y4⟩:=Uo (W:=[a,c]) q2w 0 a rfl
           replace y1:∀hh,Gc 1 t9 (.int .i64 1) hh=.ok (.ptr b1 o1) hh:=y1
           replace y3:∀hh,Gc 1 t9 (.int .i64 0) hh=.ok (.ptr b0 o0) hh:=y3
           have k5:decide (jj=1)=true:=decide_eq_true hj
           have tw0:=Sx.TG.refl (tw.at (h:=hz) hlz)
           repeat' (first|with_reducible (first|apply A7|apply A8|apply A9|apply Ba)|((with_reducible (first|apply zc1|apply zc2));exact At6 _;intro vv hh ee E8 Bu qq;(first|(have eqt:=Sx.Ai.quiet ee;try simp only [C9] at E8 Bu eqt)|(try simp only [C9] at E8 Bu));subst qq)|(with_reducible (first|apply Cy|apply Cz|apply C0|apply C1);(conv=>lhs;simp (disch:=first|exact dA|fail) [lw, *,k5,y1,y2,y3,y4,gw]);with_reducible (first|apply A7|apply A8|apply A9|apply Ba|apply Cu|(refine Cv (by simp) ?_)|(apply Cw<;>intro hc<;>(try simp only [Bt] at hc)<;>(try (exfalso;omega)))))|(with_reducible (first|apply Kl|apply Km);(conv=>lhs;simp only [zw,k5]))|(with_reducible (first|apply C2|apply C3|apply C4|apply C5)<;>intro hc<;>(try simp only [Bt] at hc)<;>(try (exfalso;omega)))|(refine Sx.B8 ?_ ?_;(focus (simp (disch:=first|decide|omega|(simp only [C9];omega)) [Sx.Aw,Sx.Am,Sx.Ar,Sx.Ax, *];done));(try simp (disch:=first|exact Ce|fail) only [Sx.Aw,Sx.Am,Sx.Bx,Sx.Ap,Sx.At,List.nil_append,List.cons_append,Sx.B9,Sx.Dp,Sx.Dn,C9,Sx.Ca, *])))
           refine (show ∀(hw hy:H) (t9:AV) (f:L2),_ from AxU) hw hh (.sl hw.nx 0 2 2 1 true) _ tw Ex gw hf hz3 ?_
           refine .inr ⟨hw.nx,0,2,true,[c.1,a.1],rfl,Nat.le_refl _,⟨show hw.nx<hh.nx by omega,22,.exact,?_,trivial⟩,by simp,rfl⟩
           rw [Sx.Aq _ _ _ (by omega)]
           exact (Bu hw.nx (by omega)).trans (Sx.Bf (h:=Ab hw) _)
         . have k5:decide (jj=1)=false:=decide_eq_false hj
           repeat' (first|with_reducible (first|apply A7|apply A8|apply A9|apply Ba)|(with_reducible (first|apply Cy|apply Cz|apply C0|apply C1);(conv=>lhs;simp (disch:=first|exact dA|fail) [lw, *,k5]);with_reducible (first|apply A7|apply A8|apply A9|apply Ba|apply Cu|(refine Cv (by simp) ?_)|(apply Cw<;>intro hc<;>(try simp only [Bt] at hc)<;>(try (exfalso;omega)))))|(with_reducible (first|apply Kl|apply Km);(conv=>lhs;simp only [zw,k5]))|(with_reducible (first|apply C2|apply C3|apply C4|apply C5)<;>intro hc<;>(try simp only [Bt] at hc)<;>(try (exfalso;omega))))
           exact (show ∀(hy:H) (f:L2),_ from Afv) _ _ tw gw
 . have hq:∃t9,(∀hh,xSl Tryz.prog 82 v (some (.int .i64 s0)) none hh=.ok t9 hh)/\(A≠[]->Sx.Sl 1 hz t9 A.length (A.map (·.1))):=by
    by_cases hA:A=[]
    . obtain ⟨t9,q1,_⟩:=Sx.Sl.lo (P:=Tryz.prog) (t:=82) (e:=22) (bytes:=24) (k:=S0.length) (by omega) (by kernel_rfl) stz.sl (by rw [List.length_append];omega)
      exact ⟨t9,hs0 ▸ q1,λhh=>absurd hA hh⟩
    . obtain ⟨t9,q1,q2,_⟩:=stz.src hA
      exact ⟨t9,hs0 ▸ q1,λ_=>q2⟩
   obtain ⟨t9,q1,q2⟩:=hq
   have k2:decide (arI x.op=2)=false:=decide_eq_false h2
   generalize arI x.op=ar at *
   repeat' (first|with_reducible (first|apply A7|apply A8|apply A9|apply Ba)|(with_reducible (first|apply Cy|apply Cz|apply C0|apply C1);(conv=>lhs;simp (disch:=first|exact dA|fail) [lw, *,q1,k2]);with_reducible (first|apply A7|apply A8|apply A9|apply Ba|apply Cu|(refine Cv (by simp) ?_)|(apply Cw<;>intro hc<;>(try simp only [Bt] at hc)<;>(try (exfalso;omega)))))|(with_reducible (first|apply Kl|apply Km);(conv=>lhs;simp only [zw,k2,Bool.not_true,Bool.not_false]))|(with_reducible (first|apply C2|apply C3|apply C4|apply C5)<;>intro hc<;>(try simp only [Bt] at hc)<;>(try (exfalso;omega)))|(refine Sx.B8 ?_ ?_;(focus (simp (disch:=first|decide|omega|(simp only [C9];omega)) [Sx.Aw,Sx.Am,Sx.Ar,Sx.Ax, *];done));(try simp (disch:=first|exact Ce|fail) only [Sx.Aw,Sx.Am,Sx.Bx,Sx.Ap,Sx.At,List.nil_append,List.cons_append,Sx.B9,Sx.Dp,Sx.Dn,C9,Sx.Ca, *])))
   exact (show ∀(hy:H) (y:Nd) (W:List (AV × List Nd)) (t9:AV) (f:L2),_ from fin) _ x A t9 _ (tz0.gr (Sx.Ai.Be (Sx.Ai.refl hz).nl (Sx.Ai.refl hz))) rfl hW g7 (λhA=>Sx.Sl.By (q2 hA) (Sx.Ai.Be (Sx.Ai.refl hz).nl (Sx.Ai.refl hz)).keeps) (λp hp=>hp) (.inl ⟨rfl,rfl⟩)
end Go.Proofs
