/- Queries that numbers select: joined. -/
import Derived.Test.YtecikbfimlolcaaGreatDoorEvTe
import Derived.Test.YtecikbfimlolcaaGreatDoorEvRgc
set_option maxRecDepth 100000
set_option linter.unusedSimpArgs false
set_option linter.unusedVariables false
noncomputable section
namespace Go.Proofs
open Go Go.Ev Go.Nm
attribute [local irreducible] Aa Al Af Ad
variable {h h1 h2:H} {tk bq:Nat} {vl:AV}
def TQ (tk:Nat) (vl:AV) (bq:Nat) (h h1:H):Prop:=∃o,Vu 20 o=true/\Sx.TG tk vl (h.put bq o) h1
theorem TQ.refl (ht:Sx.H8 h tk vl) (hb:Vu 20 (h.m.get bq)=true) (hn:bq≠tk):TQ tk vl bq h h:=by
 refine ⟨h.m.get bq,hb,?_⟩
 obtain ⟨m,hm,hc⟩:=ht.cell
 refine ⟨m,hm,Nat.le_refl _,λb hb=>?_,λx hx=>.inl (List.mem_cons_of_mem _ (List.mem_cons_of_mem _ hx))⟩
 by_cases e:b=tk
 . subst e
   rw [Sx.A2,hc]
 . rw [Sx.Aq _ _ _ e]
   by_cases e2:b=bq
   . subst e2
     rw [Sx.A2]
   . rw [Sx.Aq _ _ _ e2]
theorem TQ.tg (e:TQ tk vl bq h h1) (g:Sx.TG tk vl h1 h2):TQ tk vl bq h h2:=by
 obtain ⟨o,ho,e⟩:=e
 exact ⟨o,ho,e.trans g⟩
theorem TQ.gr (e:TQ tk vl bq h h1) (g:Sx.Ai h1 h2):TQ tk vl bq h h2:=by
 obtain ⟨o,ho,e⟩:=e
 exact ⟨o,ho,e.gr g⟩
theorem TQ.nl (e:TQ tk vl bq h h1):TQ tk vl bq h (Ab h1):=e.gr (Sx.Ai.refl h1).nl
theorem TQ.new (e:TQ tk vl bq h h1) (o:AO):TQ tk vl bq h (h1.new o):=e.gr ((Sx.Ai.refl h1).new o)
theorem TQ.lo (e:TQ tk vl bq h h1):h.nx<=h1.nx:=by
 obtain ⟨o,ho,e⟩:=e
 exact e.lo
theorem TQ.Cf (e:TQ tk vl bq h h1) (b:Nat) (hb:b<h.nx) (n1:b≠tk) (n2:b≠bq):h1.m.get b=h.m.get b:=by
 obtain ⟨o,ho,e⟩:=e
 rw [e.Cf b hb n1,Sx.Aq _ _ _ n2]
theorem TQ.at (e:TQ tk vl bq h h1) (ht:tk<h.nx):Sx.H8 h1 tk vl:=by
 obtain ⟨o,ho,e⟩:=e
 exact e.at ht
theorem TQ.Aiq (e:TQ tk vl bq h h1) (c:Nat) (o:AO) (hc:h.nx<=c):TQ tk vl bq h (h1.put c o):=by
 obtain ⟨o',ho,e⟩:=e
 exact ⟨o',ho,e.Aiq c o hc⟩
theorem TQ.put (e:TQ tk vl bq h h1) (o:AO) (ho:Vu 20 o=true) (hn:bq≠tk):TQ tk vl bq h (h1.put bq o):=by
 obtain ⟨o',ho',m,hm,hg⟩:=e
 refine ⟨o,ho,m,hm,hg.lo,λb hb=>?_,λx hx=>?_⟩
 . by_cases e2:b=bq
   . subst e2
     rw [Sx.A2,Sx.Aq _ _ _ hn,Sx.A2]
   . rw [Sx.Aq _ _ _ e2,hg.Cf b hb]
     by_cases e:b=tk
     . subst e
       rw [Sx.A2,Sx.A2]
     . rw [Sx.Aq _ _ _ e,Sx.Aq _ _ _ e2,Sx.Aq _ _ _ e,Sx.Aq _ _ _ e2]
 . rcases List.mem_cons.1 hx with rfl|hx
   . exact .inl (List.mem_cons_of_mem _ (List.mem_cons_self ..))
   . exact hg.lg x hx
theorem TQ.reL {hA:H} {L:List Nat} (e1:TQ tk vl bq h hA) (e2:TQ tk vl bq h h1) (hL:∀z∈L,z∈hA.lg\/z=tk\/z=bq\/h.nx<=z):TQ tk vl bq h (Be L h1):=by
 obtain ⟨o,ho,m,hm,hg⟩:=e2
 obtain ⟨o1,ho1,m1,hm1,hg1⟩:=e1
 refine ⟨o,ho,m,hm,hg.lo,hg.Cf,λz hz=>?_⟩
 rcases hL z hz with h3|rfl|rfl|h3
 . exact hg1.lg z h3
 . exact .inl (List.mem_cons_self ..)
 . exact .inl (List.mem_cons_of_mem _ (List.mem_cons_self ..))
 . exact .inr h3
theorem TQ.own {h0:H} (e0:Sx.TG tk vl h0 h) (e:TQ tk vl bq h h1) (hb:h0.nx<=bq):Sx.TG tk vl h0 h1:=by
 obtain ⟨o,ho,e⟩:=e
 exact (e0.Aiq bq o hb).trans e
theorem Sl.tq {s len:Nat} {v:AV} {c:List AV} (hs:Sx.Sl s h v len c) (ht:Sx.H8 h tk vl) (ha:Sx.Av tk v) (hb:Sx.Av bq v) (hq:Vu 20 (h.m.get bq)=true) (hn:bq≠tk) (e:TQ tk vl bq h h1):Sx.Sl s h1 v len c:=by
 obtain ⟨o,ho,e⟩:=e
 obtain ⟨l0,e0,hg0,hl0⟩:=Pb hq
 obtain ⟨l1,e1,rfl,Vs⟩:=Pb ho
 have ht2:Sx.H8 (h.put bq (.cells l1 e1 .exact)) tk vl:=by
  obtain ⟨m,hm,hc⟩:=ht.cell
  exact ⟨ht.lt,m,hm,by rw [Sx.Aq _ _ _ (λhh=>hn hh.symm)];exact hc⟩
 refine Sx.Sl.tg (Sl.AnO hs hg0 (by omega) λh0 b off n cap z ex hv=>?_) ht2 ha e
 subst hv
 rcases hs with ⟨h3,_⟩|⟨b',Yk,Ll,ex',cs,h3,_⟩
 . omega
 . cases h3
   exact hb _ _ _ _ _ _ rfl h0
theorem ClR.tq {c:Cl} (hc:ClR tk h c) (hc2:ClR bq h c) (ht:Sx.H8 h tk vl) (hq:Vu 20 (h.m.get bq)=true) (hn:bq≠tk) (e:TQ tk vl bq h h1):ClR tk h1 c:=⟨hc.Mu,Sl.tq hc.words ht hc.av hc2.av hq hn e,hc.av,hc.one,hc.cell⟩
theorem Hu.tq {v:AV} {l:List Cl} (hc:Hu tk h v l) (hc2:Hu bq h v l) (ht:Sx.H8 h tk vl) (hq:Vu 20 (h.m.get bq)=true) (hn:bq≠tk) (e:TQ tk vl bq h h1):Hu tk h1 v l:=⟨Sl.tq hc.sl ht hc.av hc2.av hq hn e,hc.av,λc hh=>(hc.ok c hh).tq (hc2.ok c hh) ht hq hn e⟩
theorem H9.tq {L:List Int} (hi:H9 tk vl L h) (hb:Sx.Av bq vl) (hq:Vu 20 (h.m.get bq)=true) (hn:bq≠tk) (e:TQ tk vl bq h h1):H9 tk vl L h1:=⟨e.at hi.at'.lt,Sl.tq hi.ints hi.at' hi.av hb hq hn e,hi.av,hi.len⟩
theorem Acx {Q:AV->H->Prop} {h0 hF:H} {Fl:List EF} {lg:List Nat} {k:H->OR} (tk bq lo:Nat) (he:∀e∈Fl,e.w=[]\/((∀x∈e.w,x=tk\/x=bq\/lo<=x)/\∀a∈Fl,Jo e a=true)) (hk:∀L,(∀z∈L,z∈lg\/z=tk\/z=bq\/lo<=z)->Sx.Ah h0 Q (k (Be L hF))):Sx.Ah h0 Q (Ff lg Fl hF k):=by
 have Ga:Lh Fl=true:=Sx.V9 Fl Fl λe h1=>by
  rcases he e h1 with h3|h3
  . rw [h3];exact .inl rfl
  . exact .inr (Sx.V4 e Fl h3.2)
 rw [Sx.So Ga]
 refine hk _ ?_
 have Cs:∀e∈Fl,∀x∈e.w,x=tk\/x=bq\/lo<=x:=λe h1 x hx=>by
  rcases he e h1 with h3|h3
  . rw [h3] at hx;cases hx
  . exact h3.1 x hx
 clear he Ga hk
 induction Fl with
 |nil=>exact λz hz=>.inl hz
 |cons e es ih=>
  intro z hz
  rw [Sx.Ap] at hz
  rcases List.mem_append.1 hz with hz|hz
  . exact .inr (Cs e (List.mem_cons_self ..) z hz)
  . exact ih (λe h1=>Cs e (List.mem_cons_of_mem _ h1)) z hz
theorem tqA (q:TQ tk vl bq h h1:=by first|((repeat' (first|assumption|with_reducible apply TQ.nl|with_reducible apply TQ.new|((with_reducible refine TQ.put ?_ _ ?_ ?_);rotate_left;(focus (first|rfl|assumption));(focus (first|assumption|omega)))|(with_reducible refine TQ.Aiq ?_ _ _ ?_)|(refine TQ.tg ?_ (by assumption))|(refine TQ.gr ?_ (by assumption))|(refine TQ.reL ?_ ?_ (by assumption))|omega|(simp only [C9];omega)));done)|fail):TQ tk vl bq h h1:=q
end Go.Proofs
namespace Go.Proofs
open Go Go.Ev Go.Nm
attribute [local irreducible] Aa Al Af Ad
variable (ctx:Ac) (N:Nat)
theorem Ahb {tk:Nat} {e:EF} {ab ap an b:Nat} {ah:H} (he:∀x∈e.w,x=tk) (ho:tk<ah.nx) (hb:b≠tk) (hc:∀k,B5 (ah.m.get b)=some k->k≠tk):Jo e ⟨ab,ap,[],.blk b,ah,an⟩=true:=by
 cases hk:B5 (ah.m.get b) with
 |none=>exact Sx.Dk he ho (.inr ⟨b,rfl,hb,hk⟩)
 |some k=>
  unfold Jo
  have h1:Ahl e.w []=true:=Sx.Zq _
  have h2:outside e.w ah.nx an=true:=Sx.Wo _ _ ho _ he
  have h3:clear (.blk b) e.w ah=true:=by
   show (Bool.rec (motive:=λ_=>Bool) (AbY e.w (B5 (ah.m.get b))) false (Ve b e.w):Bool)=true
   rw [Sx.Ab8 b e.w he hb,hk]
   show Ib (Ve k e.w)=true
   rw [Sx.Ab8 k e.w he (hc k hk)]
   rfl
  rw [h1,h2,h3]
  cases M4 (Nat.lor (Nat.land e.pr ab) (Nat.land ap e.bit))<;>cases Nat.beq e.bit ab<;>rfl
theorem AlW {tk bq:Nat} {vl:AV} {h:H} {s:Sc} {i:Int} (hs:ScR tk h s) (hs2:ScR bq h s) (ht:Sx.H8 h tk vl) (hq:Vu 20 (h.m.get bq)=true) (hn:bq≠tk) (i0:0<=i) (i1:i<(s.A1.length:Int)):
 ∃(nm:List Nat) (b o:Nat),b<tk/\b<bq/\(∀k,B5 (h.m.get b)=some k->k<tk)/\(∀hh,Gc 4 s.cv (.int .i64 i) hh=.ok (.ptr b o) hh)/\∀hx,TQ tk vl bq h hx->∀hh,Sx.Bi hx hh->Ae (some none) (.ptr b o) hh=.ok (.str nm) hh:=by
 have X4:((i.toNat:Nat):Int)=i:=Int.toNat_of_nonneg i0
 obtain ⟨c,hci⟩:∃c,s.A1[i.toNat]?=some c:=⟨_,List.getElem?_eq_getElem (by omega)⟩
 obtain ⟨b,o,el⟩:=Sx.R0.elem (f:=Hx) (s:=4) (λ_=>rfl) hs.A1.sl hci
 have x1:=el.ia
 rw [X4] at x1
 obtain ⟨off,cap,ex,hv⟩:=Acg hs.A1.sl (by omega) el
 obtain ⟨p1,p2⟩:=hs.cz b off _ cap 4 ex hv (by omega)
 obtain ⟨p3,p4⟩:=hs2.cz b off _ cap 4 ex hv (by omega)
 refine ⟨c.name,b,o,p1,p3,p2,x1,λhx e=>?_⟩
 obtain ⟨b2,o2,el2⟩:=Sx.R0.elem (f:=Hx) (s:=4) (λ_=>rfl) (hs.A1.tq hs2.A1 ht hq hn e).sl hci
 have x2:=el2.ia h
 rw [X4,x1] at x2
 cases x2
 exact el2.part 0 _ rfl
def JQ (q:Qr) (vc vo vm:AV) (bq:Nat) (h1:H):Prop:=∃(s13 s14 s15:List Nat) (c16:Int),h1.m.get bq=.cells (qc { q with s13:=s13,s14:=s14,s15:=s15,c16:=c16 } vc vo vm) 26 .exact
structure JIn (tk:Nat) (vl:AV) (L:List Int) (bq:Nat) (h:H) (q:Qr) (vc vo vm:AV) (a b:Sc):Prop where
 hi:H9 tk vl L h
 av:Sx.Av bq vl
 hn:bq≠tk
 lt:bq<h.nx
 c1:Ge vc=true/\cellsOf vc=some [vc]
 c2:Ge vo=true/\cellsOf vo=some [vo]
 c3:Ge vm=true/\cellsOf vm=some [vm]
 hq:Vu 20 (h.m.get bq)=true
 a1:ScR tk h a
 a2:ScR bq h a
 b1:ScR tk h b
 b2:ScR bq h b
set_option maxHeartbeats 2000000 in
theorem AlO (Fg:R38 ctx) {Q:AV->H->Prop} (tk:Nat) (vl:AV) (L:List Int) (bq:Nat) (h:H) (q:Qr) (vc vo vm:AV) (a b:Sc) (J:JIn tk vl L bq h q vc vo vm a b) (n1:Nat) (i:Int) (i0:0<=i) (i1:i<(a.A1.length:Int))
 (Qz:∀(hd:H) (f:L2),TQ tk vl bq h hd->h.nx+2<=hd.nx->hd.m.get h.nx=.cells (Ze a) 73 .exact->hd.m.get (h.nx+1)=.cells (Ze b) 73 .exact->JQ q vc vo vm bq hd->Sx.Ah Sx.H0 Q (AgC ctx N n1 (.ptr tk 0) (.ptr bq 0) (.ptr h.nx 0) (.ptr (h.nx+1) 0) (.int .i64 (i+1)) f hd)):
 ∀(k:Nat) (m:Int) (n:Nat) (hd:H) (f0:L2),m+(k:Int)=(b.A1.length:Int)->0<=m->k<n->TQ tk vl bq h hd->h.nx+2<=hd.nx->hd.m.get h.nx=.cells (Ze a) 73 .exact->hd.m.get (h.nx+1)=.cells (Ze b) 73 .exact->JQ q vc vo vm bq hd->Sx.Ah Sx.H0 Q (Alk ctx N n1 n (.ptr tk 0) (.ptr bq 0) (.ptr h.nx 0) (.ptr (h.nx+1) 0) (.int .i64 i) (.int .i64 m) f0 hd)
 |0,m,n,hd,f0,hmk,hm0,S3,e,hx2,g6,g7,hj=>by
  obtain ⟨n2,rfl⟩:∃n2,n=n2+1:=⟨n - 1,by omega⟩
  have k1:decide (m<(b.A1.length:Int))=false:=decide_eq_false (by omega)
  have hlen:∀hh,Fo b.cv hh=.ok (.int .i64 (b.A1.length:Int)) hh:=λ_=>J.b1.A1.sl.Gs
  have ha5:=J.a1.Mu
  rw [Ape]
  repeat' (first|with_reducible (first|apply A7|apply A8|apply A9|apply Ba)|(with_reducible (first|apply Cy|apply Cz|apply C0|apply C1);(conv=>lhs;simp (disch:=first|exact dA|fail) [lw, *,k1,hlen]);with_reducible (first|apply A7|apply A8|apply A9|apply Ba|apply Cu|(refine Cv (by simp) ?_)|(apply Cw<;>intro hc<;>(try simp only [Bt] at hc)<;>(try (exfalso;omega)))))|(with_reducible (first|apply Kl|apply Km);(conv=>lhs;simp only [zw,k1]))|(with_reducible (first|apply C2|apply C3|apply C4|apply C5)<;>intro hc<;>(try simp only [Bt] at hc)<;>(try (exfalso;omega))))
  exact Qz hd _ e hx2 g6 g7 hj
 |k+1,m,n,hd,f0,hmk,hm0,S3,e,hx2,g6,g7,hj=>by
  obtain ⟨n2,rfl⟩:∃n2,n=n2+1:=⟨n - 1,by omega⟩
  have ih:=AlO Fg tk vl L bq h q vc vo vm a b J n1 i i0 i1 Qz k (m+1) n2
  have ha5:=J.a1.Mu
  have hb5:=J.b1.Mu
  have B6:=J.hi.at'.lt
  have G8:=J.lt
  have hn:=J.hn
  have k1:decide (m<(b.A1.length:Int))=true:=decide_eq_true (by omega)
  have hlen:∀hh,Fo b.cv hh=.ok (.int .i64 (b.A1.length:Int)) hh:=λ_=>J.b1.A1.sl.Gs
  have hT:∀(k:Int) (hx:H),TQ tk vl bq h hx->k<=9223372036854775807->Sx.D6 tk vl hx (Below k) (ctx.call 38 [.ptr tk 0,.int .i64 k] hx):=λk hx e hk=>
   Fg tk vl L k hx (J.hi.tq J.av J.hq hn e).at' (J.hi.tq J.av J.hq hn e).ints J.hi.av J.hi.len hk
  obtain ⟨na,ba,oa,pa1,pa2,pa3,J4,J1⟩:=AlW J.a1 J.a2 J.hi.at' J.hq hn i0 i1
  obtain ⟨nb,bb,ob,pb1,pb2,pb3,Wx,Vz⟩:=AlW J.b1 J.b2 J.hi.at' J.hq hn hm0 (show m<(b.A1.length:Int) by omega)
  have J5:=J1 hd e
  have Wy:=Vz hd e
  obtain ⟨oa1,oa2⟩:Ge a.cv=true/\cellsOf a.cv=some [a.cv]:=⟨J.a1.one,J.a1.cell⟩
  obtain ⟨s13,s14,s15,c16,hq⟩:=hj
  have ka:∀k,B5 (hd.m.get ba)=some k->k≠tk:=λk hk=>by
   rw [e.Cf ba (by omega) (by omega) (by omega)] at hk
   have:=pa3 k hk
   omega
  have kb:∀k,B5 (hd.m.get bb)=some k->k≠tk:=λk hk=>by
   rw [e.Cf bb (by omega) (by omega) (by omega)] at hk
   have:=pb3 k hk
   omega
  clear Qz J1 Vz pa3 pb3 J
  rw [Ape]
  repeat' (first|with_reducible (first|apply A7|apply A8|apply A9|apply Ba)|(with_reducible (first|apply Cy|apply Cz|apply C0|apply C1);(conv=>lhs;simp (disch:=first|exact dA|fail) [lw, *,k1,hlen,J4,Wx,J5,Wy]);with_reducible (first|apply A7|apply A8|apply A9|apply Ba|apply Cu|(refine Cv (by simp) ?_)|(apply Cw<;>intro hc<;>(try simp only [Bt] at hc)<;>(try (exfalso;omega)))))|(with_reducible (first|apply Kl|apply Km);(conv=>lhs;simp only [zw,k1]))|(with_reducible (first|apply C2|apply C3|apply C4|apply C5)<;>intro hc<;>(try simp only [Bt] at hc)<;>(try (exfalso;omega)))|(refine Sx.B8 ?_ ?_;(focus (simp (disch:=first|decide|omega|(simp only [C9];omega)) [Sx.Aw,Sx.Am,Sx.Ar,Sx.Ax, *];done));(try simp (disch:=first|exact Ce|fail) only [Sx.Aw,Sx.Am,Sx.Bx,Sx.Ap,Sx.At,List.nil_append,List.cons_append,Sx.B9,Sx.Dp,Sx.Dn,C9,Sx.Ca, *])))
  . refine Sx.M5 (hT 3 _ tqA (by omega)) λv2 hh ee E8 Bu q2=>?_
    obtain ⟨jj,rfl,j0,j1⟩:=q2
    have hw:=Sx.TG.wrote (show Sx.TG tk vl (Ab (Ab hd)) hh from ee)
    simp only [C9] at E8 Bu
    obtain ⟨c0,code,c2,c3,c4,c5,s6,c7,ord,c9,Wz,Uw,W0,z13,z14,z15,z16,E9,s18,c19⟩:=q
    simp only at hq
    have hq2:=(Bu bq (by have:=e.lo;omega) hn).trans hq
    have te:TQ tk vl bq h hh:=tqA
    repeat' (first|with_reducible (first|apply A7|apply A8|apply A9|apply Ba)|(with_reducible (first|apply Cy|apply Cz|apply C0|apply C1);(conv=>lhs;simp (disch:=first|exact dA|fail) [lw, *,hq2]);with_reducible (first|apply A7|apply A8|apply A9|apply Ba|apply Cu|(refine Cv (by simp) ?_)|(apply Cw<;>intro hc<;>(try simp only [Bt] at hc)<;>(try (exfalso;omega)))))|(with_reducible (first|apply C2|apply C3|apply C4|apply C5)<;>intro hc<;>(try simp only [Bt] at hc)<;>(try (exfalso;omega)))|(refine Sx.B8 ?_ ?_;(focus (simp (disch:=first|decide|omega|(simp only [C9];omega)) [Sx.Aw,Sx.Am,Sx.Ar,Sx.Ax, *];done));(try simp (disch:=first|exact Ce|fail) only [Sx.Aw,Sx.Am,Sx.Bx,Sx.Ap,Sx.At,List.nil_append,List.cons_append,Sx.B9,Sx.Dp,Sx.Dn,C9,Sx.Ca, *])))
    refine Acx tk bq h.nx ?_ λLz hLz=>?_
    . simp only [List.forall_mem_cons,List.not_mem_nil,false_imp_iff,implies_true,and_true]
      repeat' (refine And.intro ?_ ?_)
      all_goals first|(left;simp;done)|(left;rfl)|(refine .inr ⟨λx hx=>?_,?_⟩;(focus first|exact .inl (hw x hx)|(refine .inr (.inl ?_);have hz:=(Sx.D4 _ _ _ hx).1;simp at hz;exact hz));(repeat' (refine And.intro ?_ ?_));all_goals first|(exact Sx.Ar ..)|(refine Sx.Ax _ _ _ _ _ _ _ _ _ _ _ _ ?_;decide)|exact Sx.Ci ..|exact Sx.Dk (tk:=tk) hw Ce (.inl rfl)|exact Sx.Dk (tk:=tk) hw Ce (.inr ⟨_,rfl,by omega,congrArg B5 g6⟩)|exact Sx.Dk (tk:=tk) hw Ce (.inr ⟨_,rfl,by omega,congrArg B5 g7⟩)|exact Ahb (tk:=tk) hw Ce (by omega) ka|exact Ahb (tk:=tk) hw Ce (by omega) kb)
    . rw [AoQ]
      repeat' (first|with_reducible (first|apply A7|apply A8|apply A9|apply Ba)|(with_reducible (first|apply Cy|apply Cz|apply C0|apply C1);(conv=>lhs;simp (disch:=first|exact dA|fail) [lw, *]);with_reducible (first|apply A7|apply A8|apply A9|apply Ba|apply Cu|(refine Cv (by simp) ?_)|(apply Cw<;>intro hc<;>(try simp only [Bt] at hc)<;>(try (exfalso;omega)))))|(with_reducible (first|apply C2|apply C3|apply C4|apply C5)<;>intro hc<;>(try simp only [Bt] at hc)<;>(try (exfalso;omega))))
      have Qy:h.nx≠bq:=by omega
      have Wg:h.nx+1≠bq:=by omega
      have w6:=(Bu h.nx (by omega) (by omega)).trans g6
      have w7:=(Bu (h.nx+1) (by omega) (by omega)).trans g7
      refine ih _ _ (by omega) (by omega) (by omega) ?_ Ce ?_ ?_ ⟨_,_,_,_,Sx.A2 ..⟩
      . exact TQ.reL e ((((te.nl.put _ rfl hn).nl.put _ rfl hn).nl.put _ rfl hn).nl.put _ rfl hn) hLz
      . show (H.put _ _ _).m.get _=_
        rw [Sx.Aq _ _ _ Qy];show (H.put _ _ _).m.get _=_
        rw [Sx.Aq _ _ _ Qy];show (H.put _ _ _).m.get _=_
        rw [Sx.Aq _ _ _ Qy];show (H.put _ _ _).m.get _=_
        rw [Sx.Aq _ _ _ Qy]
        exact w6
      . show (H.put _ _ _).m.get _=_
        rw [Sx.Aq _ _ _ Wg];show (H.put _ _ _).m.get _=_
        rw [Sx.Aq _ _ _ Wg];show (H.put _ _ _).m.get _=_
        rw [Sx.Aq _ _ _ Wg];show (H.put _ _ _).m.get _=_
        rw [Sx.Aq _ _ _ Wg]
        exact w7
  . rw [AoQ]
    repeat' (first|with_reducible (first|apply A7|apply A8|apply A9|apply Ba)|(with_reducible (first|apply Cy|apply Cz|apply C0|apply C1);(conv=>lhs;simp (disch:=first|exact dA|fail) [lw, *]);with_reducible (first|apply A7|apply A8|apply A9|apply Ba|apply Cu|(refine Cv (by simp) ?_)|(apply Cw<;>intro hc<;>(try simp only [Bt] at hc)<;>(try (exfalso;omega)))))|(with_reducible (first|apply C2|apply C3|apply C4|apply C5)<;>intro hc<;>(try simp only [Bt] at hc)<;>(try (exfalso;omega))))
    exact ih hd _ (by omega) (by omega) (by omega) e hx2 g6 g7 ⟨s13,s14,s15,c16,hq⟩
theorem AlN (Fg:R38 ctx) (hN:100<N) (tk:Nat) (vl:AV) (L:List Int) (bq:Nat) (h:H) (q:Qr) (vc vo vm:AV) (a b:Sc) (J:JIn tk vl L bq h q vc vo vm a b):
 ∀(k:Nat) (i:Int) (n:Nat) (hd:H) (f0:L2),i+(k:Int)=(a.A1.length:Int)->0<=i->k<n->TQ tk vl bq h hd->h.nx+2<=hd.nx->hd.m.get h.nx=.cells (Ze a) 73 .exact->hd.m.get (h.nx+1)=.cells (Ze b) 73 .exact->JQ q vc vo vm bq hd->Sx.Ah Sx.H0 (λ_ h1=>TQ tk vl bq h h1/\JQ q vc vo vm bq h1) (AgC ctx N n (.ptr tk 0) (.ptr bq 0) (.ptr h.nx 0) (.ptr (h.nx+1) 0) (.int .i64 i) f0 hd)
 |0,i,n,hd,f0,hik,hi0,S3,e,hx2,g6,g7,hj=>by
  obtain ⟨n2,rfl⟩:∃n2,n=n2+1:=⟨n - 1,by omega⟩
  have k1:decide (i<(a.A1.length:Int))=false:=decide_eq_false (by omega)
  have hlen:∀hh,Fo a.cv hh=.ok (.int .i64 (a.A1.length:Int)) hh:=λ_=>J.a1.A1.sl.Gs
  rw [Apd]
  repeat' (first|with_reducible (first|apply A7|apply A8|apply A9|apply Ba)|(with_reducible (first|apply Cy|apply Cz|apply C0|apply C1);(conv=>lhs;simp (disch:=first|exact dA|fail) [lw, *,k1,hlen]);with_reducible (first|apply A7|apply A8|apply A9|apply Ba|apply Cu|(refine Cv (by simp) ?_)|(apply Cw<;>intro hc<;>(try simp only [Bt] at hc)<;>(try (exfalso;omega)))))|(with_reducible (first|apply Kl|apply Km);(conv=>lhs;simp only [zw,k1]))|(with_reducible (first|apply C2|apply C3|apply C4|apply C5)<;>intro hc<;>(try simp only [Bt] at hc)<;>(try (exfalso;omega))))
  exact zr (Sx.Ed _) ⟨e,hj⟩
 |k+1,i,n,hd,f0,hik,hi0,S3,e,hx2,g6,g7,hj=>by
  obtain ⟨n2,rfl⟩:∃n2,n=n2+1:=⟨n - 1,by omega⟩
  have ih:=AlN Fg hN tk vl L bq h q vc vo vm a b J k (i+1) n2
  have hb5:=J.b1.Mu
  have k1:decide (i<(a.A1.length:Int))=true:=decide_eq_true (by omega)
  have hlen:∀hh,Fo a.cv hh=.ok (.int .i64 (a.A1.length:Int)) hh:=λ_=>J.a1.A1.sl.Gs
  rw [Apd]
  repeat' (first|with_reducible (first|apply A7|apply A8|apply A9|apply Ba)|(with_reducible (first|apply Cy|apply Cz|apply C0|apply C1);(conv=>lhs;simp (disch:=first|exact dA|fail) [lw, *,k1,hlen]);with_reducible (first|apply A7|apply A8|apply A9|apply Ba|apply Cu|(refine Cv (by simp) ?_)|(apply Cw<;>intro hc<;>(try simp only [Bt] at hc)<;>(try (exfalso;omega)))))|(with_reducible (first|apply Kl|apply Km);(conv=>lhs;simp only [zw,k1]))|(with_reducible (first|apply C2|apply C3|apply C4|apply C5)<;>intro hc<;>(try simp only [Bt] at hc)<;>(try (exfalso;omega))))
  exact AlO ctx N Fg tk vl L bq h q vc vo vm a b J n2 i hi0 (by omega) (λhd f p1 p2 p3 p4 p5=>ih hd f (by omega) (by omega) (by omega) p1 p2 p3 p4 p5) b.A1.length 0 N hd _ (by omega) (by omega) (by omega) e hx2 g6 g7 hj
def R39:Prop:=∀(tk:Nat) (vl:AV) (L:List Int) (bq:Nat) (h:H) (q:Qr) (vc vo vm:AV) (a b:Sc),JIn tk vl L bq h q vc vo vm a b->h.m.get bq=.cells (qc q vc vo vm) 26 .exact->Sx.Ah Sx.H0 (λ_ h1=>TQ tk vl bq h h1/\JQ q vc vo vm bq h1) (ctx.call 39 [.ptr tk 0,.ptr bq 0,.agg (Ze a),.agg (Ze b)] h)
theorem r39 (Fg:R38 ctx) (hN:100<N) (tk:Nat) (vl:AV) (L:List Int) (bq:Nat) (h:H) (q:Qr) (vc vo vm:AV) (a b:Sc) (J:JIn tk vl L bq h q vc vo vm a b) (hg:h.m.get bq=.cells (qc q vc vo vm) 26 .exact):Sx.Ah Sx.H0 (λ_ h1=>TQ tk vl bq h h1/\JQ q vc vo vm bq h1) (Ay Tryz.prog ctx N false 39 [.ptr tk 0,.ptr bq 0,.agg (Ze a),.agg (Ze b)] h):=by
 rw [e39]
 have ha5:=J.a1.Mu
 have G8:=J.lt
 obtain ⟨oa1,oa2⟩:Ge a.cv=true/\cellsOf a.cv=some [a.cv]:=⟨J.a1.one,J.a1.cell⟩
 obtain ⟨ob1,ob2⟩:Ge b.cv=true/\cellsOf b.cv=some [b.cv]:=⟨J.b1.one,J.b1.cell⟩
 repeat' (first|with_reducible (first|apply A7|apply A8|apply A9|apply Ba)|(with_reducible (first|apply Cy|apply Cz|apply C0|apply C1);(conv=>lhs;simp (disch:=first|exact dA|fail) [lw, *]);with_reducible (first|apply A7|apply A8|apply A9|apply Ba|apply Cu|(refine Cv (by simp) ?_)|(apply Cw<;>intro hc<;>(try simp only [Bt] at hc)<;>(try (exfalso;omega)))))|(with_reducible (first|apply C2|apply C3|apply C4|apply C5)<;>intro hc<;>(try simp only [Bt] at hc)<;>(try (exfalso;omega))))
 refine AlN ctx N Fg hN tk vl L bq h q vc vo vm a b J a.A1.length 0 N _ _ (by omega) (by omega) (by omega) (((TQ.refl J.hi.at' J.hq J.hn).new _).new _) (Nat.le_refl _) ?_ (Sx.Bf (h:=h.new _) _) ⟨q.s13,q.s14,q.s15,q.c16,?_⟩
 . rw [Sx.Cq (h:=h.new _) _ h.nx (by show h.nx≠h.nx+1;omega)]
   exact Sx.Bf _
 . rw [Sx.Cq (h:=h.new _) _ bq (by show bq≠h.nx+1;omega),Sx.Cq (h:=h) _ bq (by omega)]
   exact hg
end Go.Proofs
