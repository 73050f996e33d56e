/- Queries that numbers select: kinds, the ranges of a batch. -/
import Derived.Test.YtecikbfimlolcaaGreatDoorEvTf
set_option maxRecDepth 100000
set_option linter.unusedSimpArgs false
set_option linter.unusedVariables false
noncomputable section
namespace Go.Proofs
open Go Go.Ev Go.Nm
attribute [local irreducible] Aa Al Af Ad
variable (ctx:Ac) (N:Nat)
theorem TQ.trans {tk bq:Nat} {vl:AV} {h h1 h2:H} (e:TQ tk vl bq h h1) (e2:TQ tk vl bq h1 h2) (hn:bq≠tk):TQ tk vl bq h h2:=by
 obtain ⟨o,ho,g⟩:=e2
 exact (e.put o ho hn).tg g
theorem Fm.To {s lo c len:Nat} {et e1:TypeId} {h:H} {v:AV} {cs l:List AV} (ho:Sx.Fm s lo et h v len cs) (hc:c<lo) (hg:Vu l.length (h.m.get c)=true):Sx.Fm s lo et (h.put c (.cells l e1 .exact)) v len cs:=by
 rcases ho with h3|⟨rfl,rfl,b,off,D7,rfl,h2,h3⟩|⟨b,k,st,rfl,q2,q3,q4,q5,q6,q7,q8,q9⟩
 . exact .inl h3
 . obtain ⟨l0,e0,hg,hl⟩:=Pb hg
   have hs:Sx.Sl s h (.sl b off 0 0 s true) 0 []:=.inr ⟨b,off,0,true,D7,rfl,Nat.le_refl _,h2,by omega,by simp⟩
   rcases Sl.AnO (e1:=e1) hs hg hl (λh0=>absurd h0 (by omega)) with ⟨_,_,h4⟩|⟨b',Yk,cap,ex,cs2,h4,q2,q3,q4,q5⟩
   . cases h4
   . cases h4
     exact .inr (.inl ⟨rfl,rfl,b,off,cs2,rfl,q3,by omega⟩)
 . exact .inr (.inr ⟨b,k,st,rfl,by rw [Sx.Aq _ _ _ (by omega)];exact q2,by rw [Sx.Aq _ _ _ (by omega)];exact q3,q4,q5,q6,q7,q8,q9⟩)
theorem Oo.To {lo c:Nat} {e1:TypeId} {h:H} {v:AV} {m:List Nd} {l:List AV} (hv:Oo lo h v m) (hc:c<lo) (hg:Vu l.length (h.m.get c)=true):Oo lo (h.put c (.cells l e1 .exact)) v m:=by
 rcases hv with hv|⟨b,off,cs,rfl,q1,q2,q3,q4⟩
 . exact .inl (Fm.To hv hc hg)
 . obtain ⟨l0,e0,hg,hl⟩:=Pb hg
   have hs:Sx.Sl 3 h (.sl b off m.length m.length 3 true) m.length (m.flatMap Bw):=.inr ⟨b,off,_,true,cs,rfl,Nat.le_refl _,q1,q2,q3⟩
   rcases Sl.AnO (e1:=e1) hs hg hl (λh0 b off len cap z ex hv=>by cases hv;omega) with ⟨_,_,h4⟩|⟨b',Yk,cap,ex,D7,h4,q5,q6,q7,q8⟩
   . cases h4
   . cases h4
     exact .inr ⟨b,off,D7,rfl,q6,q7,q8,q4⟩
theorem Oo.tq {lo tk bq:Nat} {vl v:AV} {h h1:H} {m:List Nd} (hv:Oo lo h v m) (ht:Sx.H8 h tk vl) (hq:Vu 20 (h.m.get bq)=true) (hn:bq≠tk) (h2:tk<lo) (h3:bq<lo) (e:TQ tk vl bq h h1):Oo lo h1 v m:=by
 obtain ⟨o,ho,e⟩:=e
 obtain ⟨l1,e1,rfl,Vs⟩:=Pb ho
 refine (hv.To (l:=l1) (e1:=e1) h3 (Vs ▸ hq)).tg ?_ h2 e
 obtain ⟨m,hm,hc⟩:=ht.cell
 exact ⟨ht.lt,m,hm,by rw [Sx.Aq _ _ _ (λhh=>hn hh.symm)];exact hc⟩
theorem Fm.tq {s lo tk bq len:Nat} {et:TypeId} {vl v:AV} {h h1:H} {cs:List AV} (hv:Sx.Fm s lo et h v len cs) (ht:Sx.H8 h tk vl) (hq:Vu 20 (h.m.get bq)=true) (hn:bq≠tk) (h2:tk<lo) (h3:bq<lo) (e:TQ tk vl bq h h1):Sx.Fm s lo et h1 v len cs:=by
 obtain ⟨o,ho,e⟩:=e
 obtain ⟨l1,e1,rfl,Vs⟩:=Pb ho
 refine Fm.tg (Fm.To (l:=l1) (e1:=e1) hv h3 (Vs ▸ hq)) ?_ h2 e
 obtain ⟨m,hm,hc⟩:=ht.cell
 exact ⟨ht.lt,m,hm,by rw [Sx.Aq _ _ _ (λhh=>hn hh.symm)];exact hc⟩
structure QIn (tk:Nat) (vl:AV) (L:List Int) (bq:Nat) (h:H):Prop where
 hi:H9 tk vl L h
 av:Sx.Av bq vl
 hn:bq≠tk
 lt:bq<h.nx
 hq:Vu 20 (h.m.get bq)=true
theorem TQ.isc {tk bq:Nat} {vl:AV} {h h1:H} (e:TQ tk vl bq h h1) (hn:bq≠tk) (hl:bq<h.nx):Vu 20 (h1.m.get bq)=true:=by
 obtain ⟨o,ho,e⟩:=e
 rw [e.Cf bq hl hn,Sx.A2]
 exact ho
theorem QIn.tq {tk:Nat} {vl:AV} {L:List Int} {bq:Nat} {h h1:H} (K:QIn tk vl L bq h) (e:TQ tk vl bq h h1):QIn tk vl L bq h1:=
 ⟨K.hi.tq K.av K.hq K.hn e,K.av,K.hn,Nat.lt_of_lt_of_le K.lt e.lo,e.isc K.hn K.lt⟩
theorem QIn.Adl {tk:Nat} {vl:AV} {L:List Int} {bq:Nat} {h:H} (K:QIn tk vl L bq h) (Fg:R38 ctx):∀(k:Int) (hx:H),TQ tk vl bq h hx->k<=9223372036854775807->Sx.D6 tk vl hx (Below k) (ctx.call 38 [.ptr tk 0,.int .i64 k] hx):=λk hx e hk=>
 Fg tk vl L k hx (K.tq e).hi.at' (K.tq e).hi.ints K.hi.av K.hi.len hk
theorem AiM (n:Int):E1 .i64 n<=9223372036854775807:=by
 by_cases h:-9223372036854775808<=n/\n<=9223372036854775807
 . rw [Sx.Cr n h.1 h.2];exact h.2
 . have e:E1 .i64 n=IntKind.i64.wrap n\/E1 .i64 n=n:=by
    unfold E1
    cases fits .i64 n
    . exact .inl rfl
    . exact .inr rfl
   have e2:fits .i64 n=false:=by
    unfold fits
    rw [Il,Il]
    by_cases h1:n < -9223372036854775808
    . rw [show decide (n<IntKind.min .i64)=true from decide_eq_true h1]
    . rw [show decide (n<IntKind.min .i64)=false from decide_eq_false h1,show decide (IntKind.max .i64<n)=true from decide_eq_true (show (9223372036854775807:Int)<n by omega)]
   have e3:E1 .i64 n=IntKind.i64.wrap n:=by
    unfold E1
    rw [e2]
   rw [e3,IntKind.wrap_i64]
   omega
def KQ (bq:Nat) (q:Qr) (vc vo vm:AV) (h1:H):Prop:=∃q':Qr,h1.m.get bq=.cells (qc q' vc vo vm) 26 .exact/\q'.code=q.code/\q'.ord=q.ord/\q'.E9=q.E9
theorem A9w (Fg:R38 ctx) (tk:Nat) (vl:AV) (L:List Int) (bq:Nat) (h:H) (q:Qr) (vc vo vm:AV) (f0:L2) (K:QIn tk vl L bq h) (hg:h.m.get bq=.cells (qc q vc vo vm) 26 .exact):
 Sx.Ah Sx.H0 (λ_ h1=>TQ tk vl bq h h1/\KQ bq q vc vo vm h1) (AgA ctx N (.ptr tk 0) (.ptr bq 0) f0 h):=by
 have B6:=K.hi.at'.lt
 have G8:=K.lt
 have hn:=K.hn
 have hT:=K.Adl ctx Fg
 have t0:TQ tk vl bq h h:=TQ.refl K.hi.at' K.hq hn
 clear K
 obtain ⟨c0,code,c2,c3,c4,c5,s6,c7,ord,c9,Wz,Uw,W0,z13,z14,z15,z16,E9,s18,c19⟩:=q
 try simp only at hg
 rw [AwR]
 repeat' (first|with_reducible (first|apply A7|apply A8|apply A9|apply Ba)|((with_reducible apply Sx.M5);exact hT _ _ tqA (by omega);intro vv hh ee E8 Bu qq;(try simp only [C9] at E8 Bu);obtain ⟨jj,rfl,j0,j1⟩:=qq)|(with_reducible (first|apply Cy|apply Cz|apply C0|apply C1);(conv=>lhs;simp (disch:=first|exact dA|fail) [lw, *,hg]);with_reducible (first|apply A7|apply A8|apply A9|apply Ba|apply Cu|(refine Cv (by simp) ?_)|(apply Cw<;>intro hc<;>(try simp only [Bt] at hc)<;>(try (exfalso;omega)))))|(with_reducible (first|apply C2|apply C3|apply C4|apply C5)<;>intro hc<;>(try simp only [Bt] at hc)<;>(try (exfalso;omega)))|(refine Sx.B8 ?_ ?_;(focus (simp (disch:=first|decide|omega|(simp only [C9];omega)) [Sx.Aw,Sx.Am,Sx.Ar,Sx.Ax, *];done));(try simp (disch:=first|exact Ce|fail) only [Sx.Aw,Sx.Am,Sx.Bx,Sx.Ap,Sx.At,List.nil_append,List.cons_append,Sx.B9,Sx.Dp,Sx.Dn,C9,Sx.Ca, *])))
 . have hcq:B5 ((h.put bq (.cells [] 0 .exact)).m.get bq)=none:=by rw [Sx.A2];rfl
   refine Acx tk bq h.nx ?_ λLz hLz=>?_
   . simp only [List.forall_mem_cons,List.not_mem_nil,false_imp_iff,implies_true,and_true]
     repeat' (refine And.intro ?_ ?_)
     all_goals first|(left;simp;done)|(left;rfl)|(refine .inr ⟨λx hx=>?_,?_⟩;(focus first|exact .inl (Sx.TG.wrote (by assumption) x hx)|(refine .inr (.inl ?_);have hz:=(Sx.D4 _ _ _ hx).1;simp at hz;exact hz));(repeat' (refine And.intro ?_ ?_));all_goals first|(exact Sx.Ar ..)|(refine Sx.Ax _ _ _ _ _ _ _ _ _ _ _ _ ?_;decide)|exact Sx.Ci ..|exact Sx.Dk (tk:=tk) (Sx.TG.wrote (by assumption)) Ce (.inl rfl)|exact Sx.Dk (tk:=tk) (Sx.TG.wrote (by assumption)) Ce (.inr ⟨_,rfl,hn,by simp [B5]⟩))
   . repeat' (first|with_reducible (first|apply A7|apply A8|apply A9|apply Ba)|(with_reducible (first|apply Cy|apply Cz|apply C0|apply C1);(conv=>lhs;simp (disch:=first|exact dA|fail) [lw, *]);with_reducible (first|apply A7|apply A8|apply A9|apply Ba|apply Cu|(refine Cv (by simp) ?_)|(apply Cw<;>intro hc<;>(try simp only [Bt] at hc)<;>(try (exfalso;omega)))))|(with_reducible (first|apply C2|apply C3|apply C4|apply C5)<;>intro hc<;>(try simp only [Bt] at hc)<;>(try (exfalso;omega))))
     exact zr (Sx.Ed _) ⟨TQ.reL tqA tqA hLz,⟨_,_,_,_,_,_,_,_,_,_,_,_,_,_,_,_,_,_,_,_⟩,Sx.A2 ..,rfl,rfl,rfl⟩
 . exact zr (Sx.Ed _) ⟨t0,⟨_,_,_,_,_,_,_,_,_,_,_,_,_,_,_,_,_,_,_,_⟩,hg,rfl,rfl,rfl⟩
theorem Fm.rl {s lo len:Nat} {et:TypeId} {h:H} {v:AV} {cs:List AV} {lg:List Nat} (hv:Sx.Fm s lo et h v len cs):Sx.Fm s lo et (Be lg h) v len cs:=by
 rcases hv with h3|⟨h1,h2,b,off,cs,h4,h5,h6⟩|h3
 . exact .inl h3
 . exact .inr (.inl ⟨h1,h2,b,off,cs,h4,((Sx.Bi.refl h).Be lg).cont b cs h5,h6⟩)
 . exact .inr (.inr h3)
set_option maxHeartbeats 2000000 in
theorem AlP (Fg:R38 ctx) (tk:Nat) (vl:AV) (L:List Int) (bq:Nat) (h:H) (K:QIn tk vl L bq h) (b7:Nat) (c:Cl) (h7:h.m.get b7=.cells (Hx c) 96 .exact) (l7:b7<h.nx) (n7:b7≠tk) (m7:b7≠bq) (vc vm:AV) (code E9:List Nd) (many:Int) (hm:many<=4):
 ∀(k:Nat) (i:Int) (n:Nat) (hd:H) (f0:L2) (q:Qr) (vo:AV),i+(k:Int)=many->0<=i->k<n->TQ tk vl bq h hd->hd.m.get bq=.cells (qc q vc vo vm) 26 .exact->q.code=code->q.E9=E9->(q.ord.length:Int)=i->Sx.Fm 2 h.nx 33 hd vo q.ord.length (q.ord.flatMap Zd) ->
 Sx.Ah Sx.H0 (λ_ h1=>TQ tk vl bq h h1/\∃(q':Qr) (vo:AV),h1.m.get bq=.cells (qc q' vc vo vm) 26 .exact/\q'.code=code/\q'.E9=E9/\q'.ord.length<=4/\Sx.Fm 2 h.nx 33 h1 vo q'.ord.length (q'.ord.flatMap Zd)) (Aln ctx N n (.ptr tk 0) (.ptr bq 0) (.ptr b7 0) (.int .i64 many) (.int .i64 i) f0 hd)
 |0,i,n,hd,f0,q,vo,hik,hi0,S3,e,hg,hc,hmt,hl,ho=>by
  obtain ⟨n2,rfl⟩:∃n2,n=n2+1:=⟨n - 1,by omega⟩
  obtain ⟨c0,ApG,c2,c3,c4,c5,s6,c7,ord,c9,Wz,Uw,W0,z13,z14,z15,z16,Azh,s18,c19⟩:=q
  replace hg:hd.m.get bq=.cells [.int .i64 c0,vc,.int .i64 c2,.int .i64 c3,.int .i64 c4,.int .i64 c5,.str s6,.int .i64 c7,vo,.int .i64 c9,.bool Wz,.str Uw,.int .i64 W0,.str z13,.str z14,.str z15,.int .i64 z16,vm,.str s18,.int .i64 c19] 26 .exact:=hg
  simp only at hc hmt hl ho
  have k1:decide (i<many)=false:=decide_eq_false (by omega)
  have hT:=K.Adl ctx Fg
  have B6:=K.hi.at'.lt
  have G8:=K.lt
  have hn:=K.hn
  have Kf:=e.lo
  rw [Aph]
  have k3:(3:Int)<=9223372036854775807:=by omega
  repeat' (first|with_reducible (first|apply A7|apply A8|apply A9|apply Ba)|((with_reducible apply Sx.M5);exact hT _ _ tqA k3;intro vv hh ee E8 Bu qq;(try simp only [C9] at E8 Bu);obtain ⟨jj,rfl,j0,j1⟩:=qq)|(with_reducible (first|apply Cy|apply Cz|apply C0|apply C1);(conv=>lhs;simp (disch:=first|exact dA|fail) [lw, *,k1]);with_reducible (first|apply A7|apply A8|apply A9|apply Ba|apply Cu|(refine Cv (by simp) ?_)|(apply Cw<;>intro hc<;>(try simp only [Bt] at hc)<;>(try (exfalso;omega)))))|(with_reducible (first|apply Kl|apply Km);(conv=>lhs;simp only [zw,k1]))|(with_reducible (first|apply C2|apply C3|apply C4|apply C5)<;>intro hc<;>(try simp only [Bt] at hc)<;>(try (exfalso;omega))))
  have hq2:=(Bu bq (by omega) hn).trans hg
  have ho2:=Fm.tq ho (e.at B6) (e.isc hn G8) hn B6 G8 ((TQ.refl (e.at B6) (e.isc hn G8) hn).tg ee)
  repeat' (first|with_reducible (first|apply A7|apply A8|apply A9|apply Ba)|(with_reducible (first|apply Cy|apply Cz|apply C0|apply C1);(conv=>lhs;simp (disch:=first|exact dA|fail) [lw, *,hq2]);with_reducible (first|apply A7|apply A8|apply A9|apply Ba|apply Cu|(refine Cv (by simp) ?_)|(apply Cw<;>intro hc<;>(try simp only [Bt] at hc)<;>(try (exfalso;omega)))))|(with_reducible (first|apply Kl|apply Km);(conv=>lhs;simp only [zw,k1]))|(with_reducible (first|apply C2|apply C3|apply C4|apply C5)<;>intro hc<;>(try simp only [Bt] at hc)<;>(try (exfalso;omega))))
  refine zr (Sx.Ed _) ⟨tqA,⟨_,ApG,_,_,_,_,_,_,ord,_,_,_,_,_,_,_,_,Azh,_,_⟩,vo,Sx.A2 ..,hc,hmt,by show ord.length<=4;omega,?_⟩
  exact Fm.To ho2 G8 (by rw [hq2];rfl)
 |k+1,i,n,hd,f0,q,vo,hik,hi0,S3,e,hg,hc,hmt,hl,ho=>by
  obtain ⟨n2,rfl⟩:∃n2,n=n2+1:=⟨n - 1,by omega⟩
  obtain ⟨c0,ApG,c2,c3,c4,c5,s6,c7,ord,c9,Wz,Uw,W0,z13,z14,z15,z16,Azh,s18,c19⟩:=q
  replace hg:hd.m.get bq=.cells [.int .i64 c0,vc,.int .i64 c2,.int .i64 c3,.int .i64 c4,.int .i64 c5,.str s6,.int .i64 c7,vo,.int .i64 c9,.bool Wz,.str Uw,.int .i64 W0,.str z13,.str z14,.str z15,.int .i64 z16,vm,.str s18,.int .i64 c19] 26 .exact:=hg
  simp only at hc hmt hl ho
  have ih:=AlP Fg tk vl L bq h K b7 c h7 l7 n7 m7 vc vm code E9 many hm k (i+1) n2
  have k1:decide (i<many)=true:=decide_eq_true (by omega)
  have hT:=K.Adl ctx Fg
  have B6:=K.hi.at'.lt
  have G8:=K.lt
  have hn:=K.hn
  have Kf:=e.lo
  have g7:hd.m.get b7=.cells (Hx c) 96 .exact:=(e.Cf b7 l7 n7 m7).trans h7
  have t0:TQ tk vl bq hd hd:=TQ.refl (e.at B6) (e.isc hn G8) hn
  have hat:=e.at B6
  have hic:=e.isc hn G8
  obtain ⟨cn,ca,cb,cw,cws⟩:=c
  try simp only at h7 g7
  rw [Aph]
  replace ih:=(show F5 _ from ih)
  repeat' (first|with_reducible (first|apply A7|apply A8|apply A9|apply Ba)|((with_reducible apply Sx.M5);exact hT _ _ tqA (AiM _);intro vv hh ee E8 Bu qq;(try simp only [C9] at E8 Bu);obtain ⟨jj,rfl,j0,j1⟩:=qq)|(with_reducible (first|apply Cy|apply Cz|apply C0|apply C1);(conv=>lhs;simp (disch:=first|exact dA|fail) [lw, *,k1,g7]);with_reducible (first|apply A7|apply A8|apply A9|apply Ba|apply Cu|(refine Cv (by simp) ?_)|(apply Cw<;>intro hc<;>(try simp only [Bt] at hc)<;>(try (exfalso;omega)))))|(with_reducible (first|apply Kl|apply Km);(conv=>lhs;simp only [zw,k1]))|(with_reducible (first|apply C2|apply C3|apply C4|apply C5)<;>intro hc<;>(try simp only [Bt] at hc)<;>(try (exfalso;omega)))|(refine Sx.B8 ?_ ?_;(focus (simp (disch:=first|decide|omega|(simp only [C9];omega)) [Sx.Aw,Sx.Am,Sx.Ar,Sx.Ax, *];done));(try simp (disch:=first|exact Ce|fail) only [Sx.Aw,Sx.Am,Sx.Bx,Sx.Ap,Sx.At,List.nil_append,List.cons_append,Sx.B9,Sx.Dp,Sx.Dn,C9,Sx.Ca, *])))
  refine Acx tk bq hd.nx ?_ λLz hLz=>?_
  . simp only [List.forall_mem_cons,List.not_mem_nil,false_imp_iff,implies_true,and_true]
    repeat' (refine And.intro ?_ ?_)
    all_goals first|(left;simp;done)|(left;rfl)|(refine .inr ⟨λx hx=>?_,?_⟩;(focus first|exact .inl (Sx.TG.wrote (by assumption) x hx)|(refine .inr (.inl ?_);have hz:=(Sx.D4 _ _ _ hx).1;simp at hz;exact hz));(repeat' (refine And.intro ?_ ?_));all_goals first|(exact Sx.Ar ..)|(refine Sx.Ax _ _ _ _ _ _ _ _ _ _ _ _ ?_;decide)|exact Sx.Ci ..|exact Sx.Dk (tk:=tk) (Sx.TG.wrote (by assumption)) Ce (.inl rfl)|exact Sx.Dk (tk:=tk) (Sx.TG.wrote (by assumption)) Ce (.inr ⟨_,rfl,n7,congrArg B5 g7⟩))
  . generalize hE:Be Lz _=hz
    have tB:TQ tk vl bq hd hz:=by rw [<- hE];exact TQ.reL t0 tqA (by assumption)
    have gB:hz.m.get bq=hd.m.get bq:=by rw [<- hE];exact Bu bq (by omega) hn
    have gC:hz.m.get b7=hd.m.get b7:=by rw [<- hE];exact Bu b7 (by omega) n7
    have xB:hz.nx=hh.nx:=by rw [<- hE];rfl
    rw [hg] at gB
    rw [g7] at gC
    have tA:TQ tk vl bq h hz:=e.trans tB hn
    have oB:=Fm.tq ho hat hic hn B6 G8 tB
    have AmV:=tB.at (h:=hd) (by omega)
    have Ana:=tB.isc hn (by omega)
    have t1:TQ tk vl bq hz hz:=TQ.refl AmV Ana hn
    have A3W:=tA.lo
    clear hLz Bu ee g7 hg ho tB t0 hat hic hE
    obtain ⟨o1,o2⟩:=B2 oB.sl
    generalize hA:E1 .i64 (ca+_)=lo1
    clear hA
    repeat' (first|with_reducible (first|apply A7|apply A8|apply A9|apply Ba)|((with_reducible apply Sx.M5);exact hT _ _ tqA (AiM _);intro vv hh ee E8 Bu qq;(try simp only [C9] at E8 Bu);obtain ⟨jj,rfl,j0,j1⟩:=qq)|(with_reducible (first|apply Cy|apply Cz|apply C0|apply C1);(conv=>lhs;simp (disch:=first|exact dA|fail) [lw, *,k1,gC,gB]);with_reducible (first|apply A7|apply A8|apply A9|apply Ba|apply Cu|(refine Cv (by simp) ?_)|(apply Cw<;>intro hc<;>(try simp only [Bt] at hc)<;>(try (exfalso;omega)))))|(with_reducible (first|apply Kl|apply Km);(conv=>lhs;simp only [zw,k1]))|(with_reducible (first|apply C2|apply C3|apply C4|apply C5)<;>intro hc<;>(try simp only [Bt] at hc)<;>(try (exfalso;omega)))|(refine Sx.B8 ?_ ?_;(focus (simp (disch:=first|decide|omega|(simp only [C9];omega)) [Sx.Aw,Sx.Am,Sx.Ar,Sx.Ax, *];done));(try simp (disch:=first|exact Ce|fail) only [Sx.Aw,Sx.Am,Sx.Bx,Sx.Ap,Sx.At,List.nil_append,List.cons_append,Sx.B9,Sx.Dp,Sx.Dn,C9,Sx.Ca, *])))
    generalize hA:E1 .i64 (lo1+_)=hi1
    clear hA
    have tF:TQ tk vl bq hz hh:=tqA
    have gF:hh.m.get bq=hz.m.get bq:=Bu bq (by omega) hn
    rw [gB] at gF
    have oF:=Fm.tq oB AmV Ana hn B6 G8 tF
    have tN:TQ tk vl bq h ((Ab hh).new (.cells [.int .i64 lo1,.int .i64 hi1] 33 .exact)):=(tA.trans tF hn).nl.new _
    have oN:Sx.Fm 2 h.nx 33 ((Ab hh).new (.cells [.int .i64 lo1,.int .i64 hi1] 33 .exact)) vo ord.length (ord.flatMap Zd):=Sx.Fm.gr oF ((Sx.Ai.refl hh).nl.new _)
    have hs:Sx.Sl 2 ((Ab hh).new (.cells [.int .i64 lo1,.int .i64 hi1] 33 .exact)) (.sl hh.nx 0 1 1 2 true) 1 [.int .i64 lo1,.int .i64 hi1]:=Sx.Sl.lit (h:=Ab hh) (Sx.Bf _) rfl rfl
    have hl5:ord.length<=4:=by omega
    obtain ⟨v',h',p1,p2,p3,p4,p5⟩:=Sx.Fm.AbQ (bytes:=16) (lo:=h.nx) oN hs.src (by rfl) (by omega) (by rfl) tN.lo
    have tP:TQ tk vl bq h h':=by
     obtain ⟨o,ho,m,hm,hg⟩:=tN
     exact ⟨o,ho,m,hm,p3 _ (Nat.le_refl _) hg⟩
    have gP:h'.m.get bq=hh.m.get bq:=by rw [p5 bq G8];exact Sx.Cq (h:=Ab hh) _ bq (by show bq≠hh.nx;omega)
    rw [gF] at gP
    have wP:∀x∈h'.lg,h.nx<=x:=by
     have g0:Sx.Ai ⟨hh.m,h.nx,[]⟩ ((Ab hh).new (.cells [.int .i64 lo1,.int .i64 hi1] 33 .exact)):=Sx.Ai.new (h:=⟨hh.m,h.nx,[]⟩) (h1:=Ab hh) ⟨by show h.nx<=hh.nx;omega,λb hb=>rfl,λx hx=>by cases hx⟩ _
     intro x hx
     rcases (p3 ⟨hh.m,h.nx,[]⟩ (Nat.le_refl _) g0).lg x hx with h3|h3
     . cases h3
     . exact h3
    have lP:hh.nx+1<=h'.nx:=p2.lo
    obtain ⟨r1,r2⟩:=B2 p4.sl
    refine Sx.Ey p1 ?_
    clear p1 p2 p3 p5 oN oF oB hs AmV Ana
    have hw:=Sx.TG.wrote (show Sx.TG tk vl (Ab (Ab hz)) hh from ee)
    repeat' (first|with_reducible (first|apply A7|apply A8|apply A9|apply Ba)|(with_reducible (first|apply Cy|apply Cz|apply C0|apply C1);(conv=>lhs;simp (disch:=first|exact dA|fail) [lw, *,k1,gP]);with_reducible (first|apply A7|apply A8|apply A9|apply Ba|apply Cu|(refine Cv (by simp) ?_)|(apply Cw<;>intro hc<;>(try simp only [Bt] at hc)<;>(try (exfalso;omega)))))|(with_reducible (first|apply Kl|apply Km);(conv=>lhs;simp only [zw,k1]))|(with_reducible (first|apply C2|apply C3|apply C4|apply C5)<;>intro hc<;>(try simp only [Bt] at hc)<;>(try (exfalso;omega)))|(refine Sx.B8 ?_ ?_;(focus (simp (disch:=first|decide|omega|(simp only [C9];omega)) [Sx.Aw,Sx.Am,Sx.Ar,Sx.Ax, *];done));(try simp (disch:=first|exact Ce|fail) only [Sx.Aw,Sx.Am,Sx.Bx,Sx.Ap,Sx.At,List.nil_append,List.cons_append,Sx.B9,Sx.Dp,Sx.Dn,C9,Sx.Ca, *])))
    refine Acx tk bq h.nx ?_ λLz hLz=>?_
    . simp only [List.forall_mem_cons,List.not_mem_nil,false_imp_iff,implies_true,and_true]
      repeat' (refine And.intro ?_ ?_)
      all_goals first|(left;simp;done)|(left;rfl)|(refine .inr ⟨λx hx=>?_,?_⟩;(focus first|exact .inl (hw x hx)|(refine .inr (.inr ?_);exact wP _ (Sx.D4 _ _ _ hx).1)|(refine .inr (.inl ?_);have hz:=(Sx.D4 _ _ _ hx).1;simp at hz;exact hz));(repeat' (refine And.intro ?_ ?_));all_goals first|(exact Sx.Ar ..)|(refine Sx.Ax _ _ _ _ _ _ _ _ _ _ _ _ ?_;decide)|exact Sx.Ci ..|exact Sx.Dk (tk:=tk) hw Ce (.inl rfl)|exact Sx.Dk (tk:=tk) hw Ce (.inr ⟨_,rfl,n7,congrArg B5 gC⟩)|exact Sx.Dk (tk:=tk) hw Ce (.inr ⟨_,rfl,hn,congrArg B5 gB⟩))
    . repeat' (first|with_reducible (first|apply A7|apply A8|apply A9|apply Ba)|(with_reducible (first|apply Cy|apply Cz|apply C0|apply C1);(conv=>lhs;simp (disch:=first|exact dA|fail) [lw, *,k1]);with_reducible (first|apply A7|apply A8|apply A9|apply Ba|apply Cu|(refine Cv (by simp) ?_)|(apply Cw<;>intro hc<;>(try simp only [Bt] at hc)<;>(try (exfalso;omega)))))|(with_reducible (first|apply Kl|apply Km);(conv=>lhs;simp only [zw,k1]))|(with_reducible (first|apply C2|apply C3|apply C4|apply C5)<;>intro hc<;>(try simp only [Bt] at hc)<;>(try (exfalso;omega))))
      refine (show ∀(hd:H) (f0:L2) (q:Qr) (vo:AV),_ from ih) _ _ ⟨c0,ApG,c2,c3,c4,c5,s6,c7,ord++[(lo1,hi1)],c9,Wz,Uw,W0,z13,z14,z15,z16,Azh,s18,c19⟩ v' (by omega) (by omega) (by omega) ?_ (Sx.A2 ..) hc hmt ?_ ?_
      . exact TQ.reL tA tqA (by assumption)
      . simp only [List.length_append,List.length_cons,List.length_nil];omega
      . simp only [List.length_append,List.flatMap_append]
        exact Fm.rl (Fm.To (h:=Ab h') (show Sx.Fm 2 h.nx 33 (Ab h') v' _ _ from Fm.rl (lg:=[]) p4) G8 ((congrArg (Vu 20) gP).trans rfl))
end Go.Proofs
