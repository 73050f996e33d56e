/- Queries that numbers select: Query, whole. -/
import Derived.Test.YtecikbfimlolcaaGreatDoorEvTd
set_option linter.all false
set_option maxRecDepth 100000
noncomputable section
namespace Go.Proofs
open Go Go.Ev Go.Nm Go.Ev.Sx
attribute [local irreducible] Aa Al Af Ad
variable (ctx:Ac) (N:Nat)
theorem TQ.trans {tk bq:Nat} {vl:AV} {h h1 h2:H} (e:TQ tk vl bq h h1) (e2:TQ tk vl bq h1 h2) (hn:bq≠tk):TQ tk vl bq h h2:=by
 obtain ⟨o,ho,g⟩:=e2
 exact (e.put o ho hn).tg g
theorem Fm.To {s lo c len:Nat} {et e1:TypeId} {h:H} {v:AV} {cs l:List AV} (ho:Fm s lo et h v len cs) (hc:c<lo) (hg:Vu l.length (h.m.get c)=true):Fm s lo et (h.put c (.cells l e1 .exact)) v len cs:=by
 rcases ho with h3|⟨rfl,rfl,b,off,D7,rfl,h2,h3⟩|⟨b,k,st,rfl,q2,q3,q4,q5,q6,q7,q8,q9⟩
 . exact .inl h3
 . obtain ⟨l0,e0,hg,hl⟩:=Pb hg
   have hs:Sl s h (.sl b off 0 0 s true) 0 []:=.inr ⟨b,off,0,true,D7,rfl,Nat.le_refl _,h2,by omega,by simp⟩
   rcases Sl.AnO (e1:=e1) hs hg hl (λh0=>absurd h0 om) with ⟨_,_,h4⟩|⟨b',Yk,cap,ex,cs2,h4,q2,q3,q4,q5⟩
   . cases h4
   . cases h4
     exact .inr (.inl ⟨rfl,rfl,b,off,cs2,rfl,q3,by omega⟩)
 . exact .inr (.inr ⟨b,k,st,rfl,by rw [Aq _ _ _ om];exact q2,by rw [Aq _ _ _ om];exact q3,q4,q5,q6,q7,q8,q9⟩)
theorem Oo.To {lo c:Nat} {e1:TypeId} {h:H} {v:AV} {m:List Nd} {l:List AV} (hv:Oo lo h v m) (hc:c<lo) (hg:Vu l.length (h.m.get c)=true):Oo lo (h.put c (.cells l e1 .exact)) v m:=by
 rcases hv with hv|⟨b,off,cs,rfl,q1,q2,q3,q4⟩
 . exact .inl (Fm.To hv hc hg)
 . obtain ⟨l0,e0,hg,hl⟩:=Pb hg
   have hs:Sl 3 h (.sl b off m.length m.length 3 true) m.length (m.flatMap Bw):=.inr ⟨b,off,_,true,cs,rfl,Nat.le_refl _,q1,q2,q3⟩
   rcases Sl.AnO (e1:=e1) hs hg hl (λh0 b off len cap z ex hv=>by cases hv;omega) with ⟨_,_,h4⟩|⟨b',Yk,cap,ex,D7,h4,q5,q6,q7,q8⟩
   . cases h4
   . cases h4
     exact .inr ⟨b,off,D7,rfl,q6,q7,q8,q4⟩
theorem Oo.tq {lo tk bq:Nat} {vl v:AV} {h h1:H} {m:List Nd} (hv:Oo lo h v m) (ht:H8 h tk vl) (hq:Vu 20 (h.m.get bq)=true) (hn:bq≠tk) (h2:tk<lo) (h3:bq<lo) (e:TQ tk vl bq h h1):Oo lo h1 v m:=by
 obtain ⟨o,ho,e⟩:=e
 obtain ⟨l1,e1,rfl,Vs⟩:=Pb ho
 refine (hv.To (l:=l1) (e1:=e1) h3 (Vs ▸ hq)).tg ?_ h2 e
 obtain ⟨m,hm,hc⟩:=ht.cell
 exact ⟨ht.lt,m,hm,by rw [Aq _ _ _ (λhh=>hn hh.symm)];exact hc⟩
theorem Fm.tq {s lo tk bq len:Nat} {et:TypeId} {vl v:AV} {h h1:H} {cs:List AV} (hv:Fm s lo et h v len cs) (ht:H8 h tk vl) (hq:Vu 20 (h.m.get bq)=true) (hn:bq≠tk) (h2:tk<lo) (h3:bq<lo) (e:TQ tk vl bq h h1):Fm s lo et h1 v len cs:=by
 obtain ⟨o,ho,e⟩:=e
 obtain ⟨l1,e1,rfl,Vs⟩:=Pb ho
 refine Fm.tg (Fm.To (l:=l1) (e1:=e1) hv h3 (Vs ▸ hq)) ?_ h2 e
 obtain ⟨m,hm,hc⟩:=ht.cell
 exact ⟨ht.lt,m,hm,by rw [Aq _ _ _ (λhh=>hn hh.symm)];exact hc⟩
structure QIn (tk:Nat) (vl:AV) (L:List Int) (bq:Nat) (h:H):Prop where
 hi:H9 tk vl L h
 av:Av bq vl
 hn:bq≠tk
 lt:bq<h.nx
 hq:Vu 20 (h.m.get bq)=true
theorem TQ.isc {tk bq:Nat} {vl:AV} {h h1:H} (e:TQ tk vl bq h h1) (hn:bq≠tk) (hl:bq<h.nx):Vu 20 (h1.m.get bq)=true:=by
 obtain ⟨o,ho,e⟩:=e
 rw [e.Cf bq hl hn,A2]
 exact ho
theorem QIn.tq {tk:Nat} {vl:AV} {L:List Int} {bq:Nat} {h h1:H} (K:QIn tk vl L bq h) (e:TQ tk vl bq h h1):QIn tk vl L bq h1:=
 ⟨K.hi.tq K.av K.hq K.hn e,K.av,K.hn,Nat.lt_of_lt_of_le K.lt e.lo,e.isc K.hn K.lt⟩
theorem QIn.Adl {tk:Nat} {vl:AV} {L:List Int} {bq:Nat} {h:H} (K:QIn tk vl L bq h) (Fg:R38 ctx):∀(k:Int) (hx:H),TQ tk vl bq h hx->k<=9223372036854775807->D6 tk vl hx (Below k) (ctx.call 38 [.ptr tk 0,.int .i64 k] hx):=λk hx e hk=>
 Fg tk vl L k hx (K.tq e).hi.at' (K.tq e).hi.ints K.hi.av K.hi.len hk
def PQV (q:Qr) (c4 c5:Int):Prop:=(q.c0=5->1<=c4/\c4<c5/\c5<=100)/\(q.c0≠5->c4=q.c4/\c5=q.c5)
def KQ (bq:Nat) (q:Qr) (vc vo vm:AV) (h1:H):Prop:=∃c4 c5:Int,PQV q c4 c5/\h1.m.get bq=.cells (qc { q with c4:=c4,c5:=c5 } vc vo vm) 26 .exact
theorem A9w (Fg:R38 ctx) (tk:Nat) (vl:AV) (L:List Int) (bq:Nat) (h:H) (q:Qr) (vc vo vm:AV) (f0:L2) (K:QIn tk vl L bq h) (hg:h.m.get bq=.cells (qc q vc vo vm) 26 .exact):
 Ah H0 (λ_ h1=>TQ tk vl bq h h1/\KQ bq q vc vo vm h1) (AgA ctx N (.ptr tk 0) (.ptr bq 0) f0 h):=by
 have B6:=K.hi.at'.lt
 have G8:=K.lt
 have hn:=K.hn
 have hT:=K.Adl ctx Fg
 have t0:TQ tk vl bq h h:=TQ.refl K.hi.at' K.hq hn
 clear K
 obtain ⟨c0,code,c2,c3,c4,c5,s6,c7,ord,c9,Wz,Uw,W0,Yc,Sk,Uo,U3,E9,Oi,Mg⟩:=q
 try simp only at hg
 rw [AwR]
 (repeat' (first|refine wd ?_|((with_reducible apply M5);exact hT _ _ tqA om;intro vv hh ee E8 Bu qq;(try simp only [C9] at E8 Bu);obtain ⟨jj,rfl,j0,j1⟩:=qq)|(refine zqq ?_ ?_<;>intro hc<;>(try (exfalso;omega)))|fail))
 . have hcq:B5 ((h.put bq (.cells [] 0 .exact)).m.get bq)=none:=by rw [A2];rfl
   refine Acx tk bq h.nx ?_ λLz Wp=>?_
   . simp only [List.forall_mem_cons,List.not_mem_nil,false_imp_iff,implies_true,and_true]
     repeat' (refine And.intro ?_ ?_)
     all_goals first|(left;simp;done)|(left;rfl)|(refine .inr ⟨λx hx=>?_,?_⟩;(focus first|exact .inl (TG.wrote (by assumption) x hx)|(refine .inr (.inl ?_);have hz:=(D4 _ _ _ hx).1;simp at hz;exact hz));(repeat' (refine And.intro ?_ ?_));all_goals first|(exact Ar ..)|(refine Ax _ _ _ _ _ _ _ _ _ _ _ _ ?_;decide)|exact Ci ..|exact Dk (tk:=tk) (TG.wrote (by assumption)) Ce (.inl rfl)|exact Dk (tk:=tk) (TG.wrote (by assumption)) Ce (.inr ⟨_,rfl,hn,by simp [B5]⟩))
   . repeat' (first|refine wk ?_|(refine zqq ?_ ?_<;>intro hc<;>(try (exfalso;omega)))|fail)
     obtain rfl:c0=5:=by assumption
     refine zr (Ed _) ⟨TQ.reL tqA tqA Wp,_,_,⟨λ_=>?_,λh5=>absurd rfl h5⟩,A2 ..⟩
     omega
 . exact zr (Ed _) ⟨t0,c4,c5,⟨λh5=>absurd h5 (by assumption),λ_=>⟨rfl,rfl⟩⟩,hg⟩
theorem Fm.rl {s lo len:Nat} {et:TypeId} {h:H} {v:AV} {cs:List AV} {lg:List Nat} (hv:Fm s lo et h v len cs):Fm s lo et (Be lg h) v len cs:=by
 rcases hv with h3|⟨h1,h2,b,off,cs,h4,h5,h6⟩|h3
 . exact .inl h3
 . exact .inr (.inl ⟨h1,h2,b,off,cs,h4,((Bi.refl h).Be lg).cont b cs h5,h6⟩)
 . exact .inr (.inr h3)
set_option maxHeartbeats 2000000 in
theorem AlP (Fg:R38 ctx) (tk:Nat) (vl:AV) (L:List Int) (bq:Nat) (h:H) (K:QIn tk vl L bq h) (b7:Nat) (c:Cl) (h7:h.m.get b7=.cells (Hx c) 96 .exact) (l7:b7<h.nx) (n7:b7≠tk) (m7:b7≠bq) (vc vm:AV) (q0:Qr) (hv1:-3<=c.a) (hv2:c.a<=c.b) (hv3:c.b<=20) (many:Int) (hm:many<=4):
 ∀(k:Nat) (i:Int) (n:Nat) (hd:H) (f0:L2) (ord:List (Int × Int)) (vo:AV),i+(k:Int)=many->0<=i->k<n->TQ tk vl bq h hd->hd.m.get bq=.cells (qc { q0 with ord:=ord } vc vo vm) 26 .exact->(ord.length:Int)=i->(∀r∈ord,c.a<=r.1/\r.1<=r.2/\r.2<=c.b)->Fm 2 h.nx 33 hd vo ord.length (ord.flatMap Zd) ->
 Ah H0 (λ_ h1=>TQ tk vl bq h h1/\∃(ord:List (Int × Int)) (c9:Int) (vo:AV),h1.m.get bq=.cells (qc { q0 with ord:=ord,c9:=c9 } vc vo vm) 26 .exact/\(ord.length:Int)=many/\(∀r∈ord,c.a<=r.1/\r.1<=r.2/\r.2<=c.b)/\0<=c9/\c9<=2/\Fm 2 h.nx 33 h1 vo ord.length (ord.flatMap Zd)) (Aln ctx N n (.ptr tk 0) (.ptr bq 0) (.ptr b7 0) (.int .i64 many) (.int .i64 i) f0 hd)
 |0,i,n,hd,f0,ord,vo,Qd,H4,S3,e,hg,hl,hR,ho=>by
  obtain ⟨n2,rfl⟩:∃n2,n=n2+1:=⟨n - 1,by omega⟩
  obtain ⟨c0,ApG,c2,c3,c4,c5,s6,c7,BgA,c9,Wz,Uw,W0,Yc,Sk,Uo,U3,Azh,Oi,Mg⟩:=q0
  replace hg:hd.m.get bq=.cells [.int .i64 c0,vc,.int .i64 c2,.int .i64 c3,.int .i64 c4,.int .i64 c5,.str s6,.int .i64 c7,vo,.int .i64 c9,.bool Wz,.str Uw,.int .i64 W0,.str Yc,.str Sk,.str Uo,.int .i64 U3,vm,.str Oi,.int .i64 Mg] 26 .exact:=hg
  have k1:decide (i<many)=false:=df
  have hT:=K.Adl ctx Fg
  have B6:=K.hi.at'.lt
  have G8:=K.lt
  have hn:=K.hn
  have Kf:=e.lo
  rw [Aph]
  have k3:(3:Int)<=9223372036854775807:=by omega
  (repeat' (first|refine wk ?_|((with_reducible apply M5);exact hT _ _ tqA k3;intro vv hh ee E8 Bu qq;(try simp only [C9] at E8 Bu);obtain ⟨jj,rfl,j0,j1⟩:=qq)))
  have hq2:=(Bu bq om hn).trans hg
  have ho2:=Fm.tq ho (e.at B6) (e.isc hn G8) hn B6 G8 ((TQ.refl (e.at B6) (e.isc hn G8) hn).tg ee)
  repeat' (first|refine wk ?_|(refine zqq ?_ ?_<;>intro hc<;>(try (exfalso;omega)))|fail)
  refine zr (Ed _) ⟨tqA,ord,_,vo,A2 ..,by omega,hR,by omega,by omega,?_⟩
  exact Fm.To ho2 G8 (by rw [hq2];rfl)
 |k+1,i,n,hd,f0,ord,vo,Qd,H4,S3,e,hg,hl,hR,ho=>by
  obtain ⟨n2,rfl⟩:∃n2,n=n2+1:=⟨n - 1,by omega⟩
  obtain ⟨c0,ApG,c2,c3,c4,c5,s6,c7,BgA,c9,Wz,Uw,W0,Yc,Sk,Uo,U3,Azh,Oi,Mg⟩:=q0
  replace hg:hd.m.get bq=.cells [.int .i64 c0,vc,.int .i64 c2,.int .i64 c3,.int .i64 c4,.int .i64 c5,.str s6,.int .i64 c7,vo,.int .i64 c9,.bool Wz,.str Uw,.int .i64 W0,.str Yc,.str Sk,.str Uo,.int .i64 U3,vm,.str Oi,.int .i64 Mg] 26 .exact:=hg
  have ih:=AlP Fg tk vl L bq h K b7 c h7 l7 n7 m7 vc vm ⟨c0,ApG,c2,c3,c4,c5,s6,c7,BgA,c9,Wz,Uw,W0,Yc,Sk,Uo,U3,Azh,Oi,Mg⟩ hv1 hv2 hv3 many hm k (i+1) n2
  have k1:decide (i<many)=true:=dt
  have hT:=K.Adl ctx Fg
  have B6:=K.hi.at'.lt
  have G8:=K.lt
  have hn:=K.hn
  have Kf:=e.lo
  have g7:hd.m.get b7=.cells (Hx c) 96 .exact:=(e.Cf b7 l7 n7 m7).trans h7
  have t0:TQ tk vl bq hd hd:=TQ.refl (e.at B6) (e.isc hn G8) hn
  have hat:=e.at B6
  have hic:=e.isc hn G8
  obtain ⟨cn,ca,cb,cw,cws⟩:=c
  try simp only at h7 g7 hv1 hv2 hv3 hR
  rw [Aph]
  replace ih:=(show F5 _ from ih)
  (repeat' (first|refine wd ?_|((with_reducible apply M5);exact hT _ _ tqA om;intro vv hh ee E8 Bu qq;(try simp only [C9] at E8 Bu);obtain ⟨jj,rfl,j0,j1⟩:=qq)))
  refine Acx tk bq hd.nx ?_ λLz Wp=>?_
  . simp only [List.forall_mem_cons,List.not_mem_nil,false_imp_iff,implies_true,and_true]
    repeat' (refine And.intro ?_ ?_)
    all_goals first|(left;simp;done)|(left;rfl)|(refine .inr ⟨λx hx=>?_,?_⟩;(focus first|exact .inl (TG.wrote (by assumption) x hx)|(refine .inr (.inl ?_);have hz:=(D4 _ _ _ hx).1;simp at hz;exact hz));(repeat' (refine And.intro ?_ ?_));all_goals first|(exact Ar ..)|(refine Ax _ _ _ _ _ _ _ _ _ _ _ _ ?_;decide)|exact Ci ..|exact Dk (tk:=tk) (TG.wrote (by assumption)) Ce (.inl rfl)|exact Dk (tk:=tk) (TG.wrote (by assumption)) Ce (.inr ⟨_,rfl,n7,congrArg B5 g7⟩))
  . generalize hE:Be Lz _=hz
    have tB:TQ tk vl bq hd hz:=by rw [<- hE];exact TQ.reL t0 tqA (by assumption)
    have gB:hz.m.get bq=hd.m.get bq:=by rw [<- hE];exact Bu bq om hn
    have gC:hz.m.get b7=hd.m.get b7:=by rw [<- hE];exact Bu b7 om n7
    have xB:hz.nx=hh.nx:=by rw [<- hE];rfl
    rw [hg] at gB
    rw [g7] at gC
    have tA:TQ tk vl bq h hz:=e.trans tB hn
    have oB:=Fm.tq ho hat hic hn B6 G8 tB
    have AmV:=tB.at (h:=hd) om
    have Ana:=tB.isc hn om
    have t1:TQ tk vl bq hz hz:=TQ.refl AmV Ana hn
    have A3W:=tA.lo
    clear Wp Bu ee g7 hg ho tB t0 hat hic hE
    obtain ⟨o1,o2⟩:=B2 oB.sl
    generalize hA:ca+_=lo1
    have BeA:ca<=lo1/\lo1<=cb:=by omega
    clear hA j0 j1
    obtain ⟨BeA,A3W⟩:=BeA
    (repeat' (first|refine wd ?_|((with_reducible apply M5);exact hT _ _ tqA om;intro vv hh ee E8 Bu qq;(try simp only [C9] at E8 Bu);obtain ⟨jj,rfl,j0,j1⟩:=qq)))
    generalize hA:lo1+_=hi1
    have Beu:lo1<=hi1/\hi1<=cb:=by omega
    clear hA
    have tF:TQ tk vl bq hz hh:=tqA
    have gF:hh.m.get bq=hz.m.get bq:=Bu bq om hn
    rw [gB] at gF
    have oF:=Fm.tq oB AmV Ana hn B6 G8 tF
    have tN:TQ tk vl bq h ((Ab hh).new (.cells [.int .i64 lo1,.int .i64 hi1] 33 .exact)):=(tA.trans tF hn).nl.new _
    have oN:Fm 2 h.nx 33 ((Ab hh).new (.cells [.int .i64 lo1,.int .i64 hi1] 33 .exact)) vo ord.length (ord.flatMap Zd):=Fm.gr oF ((Ai.refl hh).nl.new _)
    have hs:Sl 2 ((Ab hh).new (.cells [.int .i64 lo1,.int .i64 hi1] 33 .exact)) (.sl hh.nx 0 1 1 2 true) 1 [.int .i64 lo1,.int .i64 hi1]:=Sl.lit (h:=Ab hh) (Bf _) rfl rfl
    have hl5:ord.length<=4:=by omega
    obtain ⟨v',h',p1,p2,p3,p4,p5⟩:=Fm.AbQ (bytes:=16) (lo:=h.nx) oN hs.src (by rfl) om (by rfl) tN.lo
    have tP:TQ tk vl bq h h':=by
     obtain ⟨o,ho,m,hm,hg⟩:=tN
     exact ⟨o,ho,m,hm,p3 _ (Nat.le_refl _) hg⟩
    have gP:h'.m.get bq=hh.m.get bq:=by rw [p5 bq G8];exact Cq (h:=Ab hh) _ bq (by show bq≠hh.nx;omega)
    rw [gF] at gP
    have wP:∀x∈h'.lg,h.nx<=x:=by
     have g0:Ai ⟨hh.m,h.nx,[]⟩ ((Ab hh).new (.cells [.int .i64 lo1,.int .i64 hi1] 33 .exact)):=Ai.new (h:=⟨hh.m,h.nx,[]⟩) (h1:=Ab hh) ⟨by show h.nx<=hh.nx;omega,λb hb=>rfl,λx hx=>by cases hx⟩ _
     intro x hx
     rcases (p3 ⟨hh.m,h.nx,[]⟩ (Nat.le_refl _) g0).lg x hx with h3|h3
     . cases h3
     . exact h3
    have lP:hh.nx+1<=h'.nx:=p2.lo
    obtain ⟨r1,r2⟩:=B2 p4.sl
    refine Ey p1 ?_
    clear p1 p2 p3 p5 oN oF oB hs AmV Ana
    have hw:=TG.wrote (show TG tk vl (Ab (Ab hz)) hh from ee)
    refine wd ?_
    refine Acx tk bq h.nx ?_ λLz Wp=>?_
    . simp only [List.forall_mem_cons,List.not_mem_nil,false_imp_iff,implies_true,and_true]
      repeat' (refine And.intro ?_ ?_)
      all_goals first|(left;simp;done)|(left;rfl)|(refine .inr ⟨λx hx=>?_,?_⟩;(focus first|exact .inl (hw x hx)|(refine .inr (.inr ?_);exact wP _ (D4 _ _ _ hx).1)|(refine .inr (.inl ?_);have hz:=(D4 _ _ _ hx).1;simp at hz;exact hz));(repeat' (refine And.intro ?_ ?_));all_goals first|(exact Ar ..)|(refine Ax _ _ _ _ _ _ _ _ _ _ _ _ ?_;decide)|exact Ci ..|exact Dk (tk:=tk) hw Ce (.inl rfl)|exact Dk (tk:=tk) hw Ce (.inr ⟨_,rfl,n7,congrArg B5 gC⟩)|exact Dk (tk:=tk) hw Ce (.inr ⟨_,rfl,hn,congrArg B5 gB⟩))
    . refine wk ?_
      refine (show ∀(hd:H) (f0:L2) (ord:List (Int × Int)) (vo:AV),_ from ih) _ _ (ord++[(lo1,hi1)]) v' om om om ?_ (A2 ..) ?_ ?_ ?_
      . exact TQ.reL tA tqA (by assumption)
      . simp only [List.length_append,List.length_cons,List.length_nil];omega
      . intro r hr
        rcases List.mem_append.1 hr with hr|hr
        . exact hR r hr
        . rw [List.mem_singleton.1 hr]
          exact ⟨BeA,Beu.1,Beu.2⟩
      . simp only [List.length_append,List.flatMap_append]
        exact Fm.rl (Fm.To (h:=Ab h') (show Fm 2 h.nx 33 (Ab h') v' _ _ from Fm.rl (lg:=[]) p4) G8 ((congrArg (Vu 20) gP).trans rfl))
def AoM (D:Dom) (lo:Nat) (h:H) (vc:AV) (l:List Nd):Prop:=(l=[]/\vc=.Bv)\/∃t,E7 D false t/\size t<=Sd 3/\l=t.nodes/\Oo lo h vc t.nodes
structure QZ (q:Qr):Prop where
 code:q.code=[]
 c2:q.c2=0
 c3:q.c3=0
 c4:q.c4=0
 c5:q.c5=0
 c7:q.c7=0
 ord:q.ord=[]
 c9:q.c9=0
 Wz:q.Wz=false
structure KV (A1:List Cl) (q0 q:Qr):Prop where
 same:q={ q0 with code:=q.code,c2:=q.c2,c3:=q.c3,c4:=q.c4,c5:=q.c5,s6:=q.s6,c7:=q.c7,ord:=q.ord,c9:=q.c9,Wz:=q.Wz }
 A47:q.c0≠2->q.c0≠4->q.c0≠5->q.code=[]/\q.c2=0/\q.c3=0
 AyG:q.c0=2\/q.c0=4\/q.c0=5->q.code≠[]/\-3<=q.c2/\q.c2<=q.c3/\q.c3<=20
 pq1:q.c0≠5->q.c4=0/\q.c5=0
 pq2:q.c0=5->1<=q.c4/\q.c4<q.c5/\q.c5<=100
 Bcp:q.c0=1\/q.c0=2\/q.c0=5->q.s6=[]
 Bcq:q.c0≠1->q.c0≠2->q.c0≠5->∃c∈A1,c.name=q.s6
 bd1:q.c0≠7->q.c7=0
 bd2:-3<=q.c7/\q.c7<=20
 Bdd:q.c0≠10->q.ord=[]/\q.c9=0
 Bde:q.c0=10->q.ord≠[]/\q.ord.length<=4/\0<=q.c9/\q.c9<=2/\∃c∈A1,c.name=q.s6/\∀r∈q.ord,c.a<=r.1/\r.1<=r.2/\r.2<=c.b
 con:q.c0≠3->q.Wz=false
def Afg (bq lo:Nat) (A1:List Cl) (q0:Qr) (vm:AV) (h1:H):Prop:=∃(q:Qr) (vc vo:AV),h1.m.get bq=.cells (qc q vc vo vm) 26 .exact/\KV A1 q0 q/\AoM (AaR A1) lo h1 vc q.code/\q.ord.length<=4/\Fm 2 lo 33 h1 vo q.ord.length (q.ord.flatMap Zd)
theorem Afg.mono {bq lo Z6:Nat} {A1:List Cl} {q0:Qr} {vm:AV} {h1:H} (hk:Afg bq lo A1 q0 vm h1) (hl:Z6<=lo):Afg bq Z6 A1 q0 vm h1:=by
 obtain ⟨q,vc,vo,a1,a2,a3,a4,a5⟩:=hk
 refine ⟨q,vc,vo,a1,a2,?_,a4,Yp a5 hl⟩
 rcases a3 with a3|⟨t,b1,b2,b3,b4⟩
 . exact .inl a3
 . exact .inr ⟨t,b1,b2,b3,b4.Y5 hl⟩
set_option maxHeartbeats 2000000 in
theorem A9v (Fg:R38 ctx) (hN:100<N) (tk:Nat) (vl:AV) (L:List Int) (bq:Nat) (h:H) (K:QIn tk vl L bq h) (cv:AV) (b7:Nat) (c:Cl) (h7:h.m.get b7=.cells (Hx c) 96 .exact) (l7:b7<h.nx) (n7:b7≠tk) (m7:b7≠bq) (vm:AV) (q:Qr) (hg:h.m.get bq=.cells (qc q .Bv .Bv vm) 26 .exact) (hz:QZ q) (A1:List Cl) (Hq:c∈A1) (hcn:c.name=q.s6) (hv:AdD c.a c.b c.ws) (hc1:q.c0≠1)
 (hO:D6 tk vl h (Se (AaR A1) false (Sd 3) h.nx) (ctx.call 80 [.ptr tk 0,cv,.int .i64 3] h)) (tb:Bool) (htb:tb=true ↔ q.c0=2\/q.c0=4\/q.c0=5) (f0:L2):
 Ah H0 (λ_ h1=>TQ tk vl bq h h1/\Afg bq h.nx A1 q vm h1) (Aee ctx N (.ptr tk 0) (.ptr bq 0) cv (.ptr b7 0) (.int .i64 q.c0) (.bool tb) f0 h):=by
 have B6:=K.hi.at'.lt
 have G8:=K.lt
 have hn:=K.hn
 have hT:=K.Adl ctx Fg
 have hat:=K.hi.at'
 have hic:=K.hq
 have t0:TQ tk vl bq h h:=TQ.refl hat hic hn
 obtain ⟨c0,code,c2,c3,c4,c5,s6,c7,ord,c9,Wz,Uw,W0,Yc,Sk,Uo,U3,E9,Oi,Mg⟩:=q
 obtain ⟨z1,z2,z3,z4,z5,z6,z7,z8,z9⟩:=hz
 simp only at z1 z2 z3 z4 z5 z6 z7 z8 z9 hcn hc1 htb
 subst z1
 subst z2
 subst z3
 subst z4
 subst z5
 subst z6
 subst z7
 subst z8
 subst z9
 replace hg:h.m.get bq=.cells [.int .i64 c0,.Bv,.int .i64 0,.int .i64 0,.int .i64 0,.int .i64 0,.str s6,.int .i64 0,.Bv,.int .i64 0,.bool false,.str Uw,.int .i64 W0,.str Yc,.str Sk,.str Uo,.int .i64 U3,vm,.str Oi,.int .i64 Mg] 26 .exact:=hg
 rw [AwQ]
 cases tb
 . have nb:c0≠2/\c0≠4/\c0≠5:=by
    refine ⟨λhh=>?_,λhh=>?_,λhh=>?_⟩<;>(have:=htb.2 om;cases this)
   obtain ⟨n2,n4,n5⟩:=nb
   have hva:-3<=c.a/\c.a<=c.b/\c.b<=20:=by
    rcases hv with ⟨_,h1,h2,h3⟩|⟨u,h1,h2,_,h3,h4⟩
    . exact ⟨h1,h2,h3⟩
    . omega
   have S5:=λmany f=>AlP ctx N Fg tk vl L bq h K b7 c h7 l7 n7 m7 .Bv vm ⟨c0,[],0,0,0,0,s6,0,[],0,false,Uw,W0,Yc,Sk,Uo,U3,E9,Oi,Mg⟩ hva.1 hva.2.1 hva.2.2 many f
   have Zn:∃c∈A1,c.name=s6:=⟨c,Hq,hcn⟩
   replace S5:=(show F5 _ from S5)
   replace K:=(show F5 _ from K)
   clear htb hv
   (repeat' (first|refine wk ?_|((with_reducible apply M5);exact hT _ _ tqA om;intro vv hh ee E8 Bu qq;(try simp only [C9] at E8 Bu);obtain ⟨jj,rfl,j0,j1⟩:=qq)|(refine zqq ?_ ?_<;>intro hc<;>(try (exfalso;omega)))|fail))
   . obtain rfl:c0=3:=by assumption
     exact zr (Ed _) ⟨tqA,⟨_,[],_,_,_,_,_,_,[],_,_,_,_,_,_,_,_,E9,_,_⟩,.Bv,.Bv,A2 ..,⟨rfl,λ_ _ _=>⟨rfl,rfl,rfl⟩,λhh=>by simp at hh,λ_=>⟨rfl,rfl⟩,λhh=>by simp at hh,λhh=>by simp at hh,λ_ _ _=>Zn,λ_=>rfl,by simp,λ_=>⟨rfl,rfl⟩,λhh=>by simp at hh,λhh=>by simp at hh⟩,.inl ⟨rfl,rfl⟩,by simp,Fm.nil ..⟩
   . obtain rfl:c0=7:=by assumption
     exact zr (Ed _) ⟨tqA,⟨_,[],_,_,_,_,_,_,[],_,_,_,_,_,_,_,_,E9,_,_⟩,.Bv,.Bv,A2 ..,⟨rfl,λ_ _ _=>⟨rfl,rfl,rfl⟩,λhh=>by simp at hh,λ_=>⟨rfl,rfl⟩,λhh=>by simp at hh,λhh=>by simp at hh,λ_ _ _=>Zn,λhh=>by simp at hh,by simp;omega,λ_=>⟨rfl,rfl⟩,λhh=>by simp at hh,λ_=>rfl⟩,.inl ⟨rfl,rfl⟩,by simp,Fm.nil ..⟩
   . obtain rfl:c0=10:=by assumption
     have tA:TQ tk vl bq h hh:=tqA
     have gA:=(Bu bq om hn).trans hg
     refine Ah.mono ((show ∀(many:Int) (f:many<=4),_ from S5) (1+jj) om (1+jj).toNat 0 N hh _ [] .Bv om om om tA gA rfl (λr hr=>by cases hr) (Fm.nil ..)) λv h1 _ q1=>?_
     obtain ⟨p1,ord,c9,vo,p2,p3,p4,p5,p7,p6⟩:=q1
     refine ⟨p1,_,.Bv,vo,p2,⟨rfl,λ_ _ _=>⟨rfl,rfl,rfl⟩,λhh=>by simp at hh,λ_=>⟨rfl,rfl⟩,λhh=>by simp at hh,λhh=>by simp at hh,λ_ _ _=>Zn,λ_=>rfl,by simp,λhh=>by simp at hh,λ_=>⟨λhh=>?_,?_,p5,p7,c,Hq,hcn,p4⟩,λ_=>rfl⟩,.inl ⟨rfl,rfl⟩,?_,p6⟩
     . replace hh:ord=[]:=hh
       rw [hh] at p3
       simp at p3
       omega
     . show ord.length<=4
       omega
     . show ord.length<=4
       omega
   . have x3:c0≠3:=by assumption
     have x7:c0≠7:=by assumption
     have x10:c0≠10:=by assumption
     exact zr (Ed _) ⟨tqA,⟨c0,[],_,_,_,_,_,_,[],_,_,_,_,_,_,_,_,E9,_,_⟩,.Bv,.Bv,hg,⟨rfl,λ_ _ _=>⟨rfl,rfl,rfl⟩,λhh=>by (replace hh:c0=2\/c0=4\/c0=5:=hh);omega,λ_=>⟨rfl,rfl⟩,λhh=>absurd hh n5,λhh=>by (replace hh:c0=1\/c0=2\/c0=5:=hh);omega,λ_ _ _=>Zn,λ_=>rfl,by simp,λ_=>⟨rfl,rfl⟩,λhh=>absurd hh x10,λ_=>rfl⟩,.inl ⟨rfl,rfl⟩,by simp,Fm.nil ..⟩
 . have nb:c0=2\/c0=4\/c0=5:=htb.1 rfl
   clear htb hv
   refine Zx ?_
   refine M5 hO λv1 h1 e1 l1 Aad q1=>?_
   obtain ⟨t,y1,s1,n1⟩:=q1
   obtain ⟨o1,o2⟩:=n1.one
   have g1:=(Aad bq G8 hn).trans hg
   have t1:TQ tk vl bq h h1:=t0.tg e1
   have A33:=e1.at B6
   have A3Q:=t1.isc hn G8
   have tb:TQ tk vl bq h1 h1:=TQ.refl A33 A3Q hn
   have hJ:=λhx q f0=>A9w ctx N Fg tk vl L bq hx q v1 .Bv vm f0
   have hK:∀hx,TQ tk vl bq h hx->QIn tk vl L bq hx:=λhx e=>K.tq e
   replace hJ:=(show F5 _ from hJ)
   replace hK:=(show F5 _ from hK)
   clear K hO
   (repeat' (first|refine wd ?_|((with_reducible apply M5);exact hT _ _ tqA om;intro vv hh ee E8 Bu qq;(try simp only [C9] at E8 Bu);obtain ⟨jj,rfl,j0,j1⟩:=qq)))
   refine Acx tk bq h1.nx ?_ λLz Wp=>?_
   . simp only [List.forall_mem_cons,List.not_mem_nil,false_imp_iff,implies_true,and_true]
     repeat' (refine And.intro ?_ ?_)
     all_goals first|(left;simp;done)|(left;rfl)|(refine .inr ⟨λx hx=>?_,?_⟩;(focus first|exact .inl (TG.wrote (by assumption) x hx)|(refine .inr (.inl ?_);have hz:=(D4 _ _ _ hx).1;simp at hz;exact hz));(repeat' (refine And.intro ?_ ?_));all_goals first|(exact Ar ..)|(refine Ax _ _ _ _ _ _ _ _ _ _ _ _ ?_;decide)|exact Ci ..|exact Dk (tk:=tk) (TG.wrote (by assumption)) Ce (.inl rfl)|exact Dk (tk:=tk) (TG.wrote (by assumption)) Ce (.inr ⟨_,rfl,hn,by simp [B5]⟩))
   . generalize hE:Be Lz _=hz
     have tB:TQ tk vl bq h1 hz:=by rw [<- hE];refine TQ.reL ?_ ?_ Wp<;>exact tqA
     have gB:∃d2 d3:Int,(-3<=d2/\d2<=d3/\d3<=20)/\hz.m.get bq=.cells [.int .i64 c0,v1,.int .i64 d2,.int .i64 d3,.int .i64 0,.int .i64 0,.str s6,.int .i64 0,.Bv,.int .i64 0,.bool false,.str Uw,.int .i64 W0,.str Yc,.str Sk,.str Uo,.int .i64 U3,vm,.str Oi,.int .i64 Mg] 26 .exact:=by
      rw [<- hE]
      refine ⟨_,_,?_,A2 ..⟩
      omega
     have tA:TQ tk vl bq h hz:=t1.trans tB hn
     have nB:Oo h.nx hz v1 t.nodes:=n1.tq A33 A3Q hn B6 G8 tB
     clear hE Wp g1 hg Aad
     obtain ⟨d2,d3,dv,gq⟩:=gB
     have AmV:=tA.at B6
     have Ana:=tA.isc hn G8
     have hlz:=tA.lo
     have fin:∀(hy:H) (s:List Nat) (f:L2),TQ tk vl bq hz hy->hy.m.get bq=.cells (qc ⟨c0,t.nodes,d2,d3,0,0,s,0,[],0,false,Uw,W0,Yc,Sk,Uo,U3,E9,Oi,Mg⟩ v1 .Bv vm) 26 .exact->(c0≠4->s=[])->(c0=4->s=s6)->Ah H0 (λ_ h1=>TQ tk vl bq h h1/\Afg bq h.nx A1 ⟨c0,[],0,0,0,0,s6,0,[],0,false,Uw,W0,Yc,Sk,Uo,U3,E9,Oi,Mg⟩ vm h1) (AgA ctx N (.ptr tk 0) (.ptr bq 0) f hy):=by
      intro hy s f ty gy b1 b2
      have ta:TQ tk vl bq h hy:=tA.trans ty hn
      have ny:Oo h.nx hy v1 t.nodes:=nB.tq AmV Ana hn B6 G8 ty
      refine Ah.mono ((show ∀(hx:H) (q:Qr) (f0:L2),_ from hJ) hy _ f ((show ∀hx,TQ tk vl bq h hx->QIn tk vl L bq hx from hK) hy ta) gy) λv h2 _ r=>?_
      obtain ⟨te,p4,p5,pv,g4⟩:=r
      refine ⟨ta.trans te hn,_,v1,.Bv,g4,⟨rfl,λx2 x4 x5=>?_,λ_=>⟨Tf t,dv⟩,pv.2,pv.1,λhh=>b1 ?_,λx1 x2 x5=>⟨c,Hq,?_⟩,λ_=>rfl,by simp,λ_=>⟨rfl,rfl⟩,λhh=>?_,λ_=>rfl⟩,.inr ⟨t,y1,s1,rfl,ny.tq (ta.at B6) (ta.isc hn G8) hn B6 G8 te⟩,by simp,Fm.nil ..⟩
      . rcases nb with hh|hh|hh
        . exact absurd hh x2
        . exact absurd hh x4
        . exact absurd hh x5
      . replace hh:c0=1\/c0=2\/c0=5:=hh
        omega
      . replace x2:c0≠2:=x2
        replace x5:c0≠5:=x5
        rw [hcn]
        exact (b2 om).symm
      . replace hh:c0=10:=hh
        omega
     replace fin:=(show F5 _ from fin)
     have tz:TQ tk vl bq hz hz:=TQ.refl AmV Ana hn
     repeat' (first|refine wk ?_|(refine zqq ?_ ?_<;>intro hc<;>(try (exfalso;omega)))|fail)
     . have x4:c0≠4:=by assumption
       exact (show ∀(hy:H) (s:List Nat) (f:L2),_ from fin) _ [] _ tqA (A2 ..) (λ_=>rfl) (λhh=>absurd hh x4)
     . obtain rfl:c0=4:=by assumption
       exact (show ∀(hy:H) (s:List Nat) (f:L2),_ from fin) _ s6 _ tz gq (λhh=>absurd rfl hh) (λ_=>rfl)
end Go.Proofs
namespace Go.Proofs
open Go Go.Ev Go.Nm Tryz Go.Ev.Sx
attribute [local irreducible] Aa Al Af Ad
variable (ctx:Ac) (N:Nat)
theorem Hu.tq2 {tk bq:Nat} {vl v:AV} {h h1:H} {l:List Cl} (hc:Hu bq h v l) (hc1:Hu tk h v l) (ht:H8 h tk vl) (hq:Vu 20 (h.m.get bq)=true) (hn:bq≠tk) (e:TQ tk vl bq h h1):Hu bq h1 v l:=
 ⟨Sl.tq hc.sl ht hc1.av hc.av hq hn e,hc.av,λc hh=>⟨(hc.ok c hh).Mu,Sl.tq (hc.ok c hh).words ht (hc1.ok c hh).av (hc.ok c hh).av hq hn e,(hc.ok c hh).av,(hc.ok c hh).one,(hc.ok c hh).cell⟩⟩
structure KIn (tk:Nat) (vl:AV) (L:List Int) (bq:Nat) (h:H) (cv:AV) (A1:List Cl):Prop where
 Q:QIn tk vl L bq h
 c1:Hu tk h cv A1
 c2:Hu bq h cv A1
 ne:A1≠[]
 Mu:A1.length<=30
 val:∀c∈A1,AdD c.a c.b c.ws
theorem KIn.tq {tk:Nat} {vl:AV} {L:List Int} {bq:Nat} {h h1:H} {cv:AV} {A1:List Cl} (K:KIn tk vl L bq h cv A1) (e:TQ tk vl bq h h1):KIn tk vl L bq h1 cv A1:=
 ⟨K.Q.tq e,K.c1.tq K.c2 K.Q.hi.at' K.Q.hq K.Q.hn e,K.c2.tq2 K.c1 K.Q.hi.at' K.Q.hq K.Q.hn e,K.ne,K.Mu,K.val⟩
theorem Afg.s6 {bq lo:Nat} {A1:List Cl} {q0:Qr} {s:List Nat} {vm:AV} {h1:H} (hk:Afg bq lo A1 { q0 with s6:=s } vm h1):Afg bq lo A1 q0 vm h1:=by
 obtain ⟨q,vc,vo,a1,a2,a3⟩:=hk
 exact ⟨q,vc,vo,a1,⟨a2.same,a2.A47,a2.AyG,a2.pq1,a2.pq2,a2.Bcp,a2.Bcq,a2.bd1,a2.bd2,a2.Bdd,a2.Bde,a2.con⟩,a3⟩
def R42:Prop:=∀(tk:Nat) (vl:AV) (L:List Int) (bq:Nat) (h:H) (cv:AV) (A1:List Cl) (q:Qr) (vm:AV),KIn tk vl L bq h cv A1->h.m.get bq=.cells (qc q .Bv .Bv vm) 26 .exact->QZ q ->
 Ah H0 (λ_ h1=>TQ tk vl bq h h1/\Afg bq h.nx A1 q vm h1) (ctx.call 42 [.ptr tk 0,.ptr bq 0,cv] h)
set_option maxHeartbeats 2000000 in
theorem Auk (Fg:R38 ctx) (h79:R79 ctx) (h80:R80 ctx 3) (hN:100<N) (tk:Nat) (vl:AV) (L:List Int) (bq:Nat) (h:H) (cv:AV) (A1:List Cl) (q:Qr) (vm:AV) (K:KIn tk vl L bq h cv A1) (hz:QZ q):
 ∀(k:Nat) (i:Int) (n:Nat) (hd:H) (f0:L2),(k:Int)=i->i<(A1.length:Int)->k<n->TQ tk vl bq h hd->hd.m.get bq=.cells (qc q .Bv .Bv vm) 26 .exact->Ah H0 (λ_ h1=>TQ tk vl bq h h1/\Afg bq h.nx A1 q vm h1) (Alm ctx N n (.ptr tk 0) (.ptr bq 0) cv (.int .i64 i) f0 hd):=by
 have B6:=K.Q.hi.at'.lt
 have G8:=K.Q.lt
 have hn:=K.Q.hn
 have A82:=K.Mu
 obtain ⟨c0,code,c2,c3,c4,c5,s6,c7,ord,c9,Wz,Uw,W0,Yc,Sk,Uo,U3,E9,Oi,Mg⟩:=q
 obtain ⟨z1,z2,z3,z4,z5,z6,z7,z8,z9⟩:=hz
 simp only at z1 z2 z3 z4 z5 z6 z7 z8 z9
 subst z1
 subst z2
 subst z3
 subst z4
 subst z5
 subst z6
 subst z7
 subst z8
 subst z9
 intro k
 induction k using Nat.strongRecOn with
 |ind k ih=>
  intro i n hd f0 hk hi S3 e hg
  obtain ⟨n1,rfl⟩:∃n1,n=n1+1:=⟨n - 1,by omega⟩
  replace hg:hd.m.get bq=.cells [.int .i64 c0,.Bv,.int .i64 0,.int .i64 0,.int .i64 0,.int .i64 0,.str s6,.int .i64 0,.Bv,.int .i64 0,.bool false,.str Uw,.int .i64 W0,.str Yc,.str Sk,.str Uo,.int .i64 U3,vm,.str Oi,.int .i64 Mg] 26 .exact:=hg
  have Kd:=K.tq e
  have X4:((i.toNat:Nat):Int)=i:=Int.toNat_of_nonneg om
  obtain ⟨c,hci⟩:∃c,A1[i.toNat]?=some c:=⟨_,List.getElem?_eq_getElem om⟩
  obtain ⟨b,o,el⟩:=R0.elem (f:=Hx) (s:=4) (λ_=>rfl) Kd.c1.sl hci
  have O0:=Kd.c1.ok c (List.mem_of_getElem? hci)
  have x1:=el.ia
  rw [X4] at x1
  have x2:=el.all
  have w1:=O0.one
  have w2:=O0.cell
  have Cg:∀(hy:H) (s:List Nat) (tb:Bool) (b7:Nat) (f:L2),s=c.name->c0≠1->(tb=true ↔ c0=2\/c0=4\/c0=5)->TQ tk vl bq h hy->hy.m.get b7=.cells (Hx c) 96 .exact->b7<hy.nx->b7≠tk->b7≠bq->hy.m.get bq=.cells (qc ⟨c0,[],0,0,0,0,s,0,[],0,false,Uw,W0,Yc,Sk,Uo,U3,E9,Oi,Mg⟩ .Bv .Bv vm) 26 .exact->Ah H0 (λ_ h1=>TQ tk vl bq h h1/\Afg bq h.nx A1 ⟨c0,[],0,0,0,0,s6,0,[],0,false,Uw,W0,Yc,Sk,Uo,U3,E9,Oi,Mg⟩ vm h1) (Aee ctx N (.ptr tk 0) (.ptr bq 0) cv (.ptr b7 0) (.int .i64 c0) (.bool tb) f hy):=by
   intro hy s tb b7 f hs hc1 htb ty g7 l7 n7 m7 gy
   have Ky:=K.tq ty
   have hyl:=ty.lo
   exact Ah.mono (A9v ctx N Fg hN tk vl L bq hy Ky.Q cv b7 c g7 l7 n7 m7 vm ⟨c0,[],0,0,0,0,s,0,[],0,false,Uw,W0,Yc,Sk,Uo,U3,E9,Oi,Mg⟩ gy ⟨rfl,rfl,rfl,rfl,rfl,rfl,rfl,rfl,rfl⟩ A1 (List.mem_of_getElem? hci) hs.symm (Ky.val c (List.mem_of_getElem? hci)) hc1 (h80 tk vl L cv A1 3 hy rfl Ky.Q.hi Ky.c1 Ky.ne Ky.Mu) tb htb f) λv h1 _ r=>⟨ty.trans r.1 hn,(Afg.s6 (q0:=⟨c0,[],0,0,0,0,s6,0,[],0,false,Uw,W0,Yc,Sk,Uo,U3,E9,Oi,Mg⟩) r.2).mono hyl⟩
  have A3t:Ah hd (λr _=>∃b:Bool,r=.bool b/\(i=0->b=true)) (ctx.call 79 [cv,.int .i64 i] hd):=h79 tk A1 cv i hd Kd.c1 Kd.Mu om hi
  have Kf:=e.lo
  clear el X4 hci O0 K Kd h80 h79
  replace Cg:=(show F5 _ from Cg)
  replace ih:=(show F5 _ from ih)
  rw [AwZ]
  refine Fj A3t λv1 h1 e1 l1 Aad q1=>?_
  clear A3t
  obtain ⟨bb,rfl,A1F⟩:=q1
  have t1:TQ tk vl bq h h1:=e.gr e1
  have g1:=(Aad bq om).trans hg
  cases bb
  . have H4:i≠0:=λhh=>by have:=A1F hh;cases this
    refine wk ?_
    exact (show ∀m,m<k->∀(i:Int) (n:Nat) (hd:H) (f0:L2),_ from ih) (k - 1) om (i - 1) n1 h1 _ om om om t1 g1
  . repeat' (first|refine wk ?_|(refine zqq ?_ ?_<;>intro hc<;>(try (exfalso;omega)))|fail)
    . obtain rfl:c0=1:=by assumption
      exact zr (Ed _) ⟨tqA,⟨_,[],_,_,_,_,_,_,[],_,_,_,_,_,_,_,_,E9,_,_⟩,.Bv,.Bv,A2 ..,⟨rfl,λ_ _ _=>⟨rfl,rfl,rfl⟩,λhh=>by simp at hh,λ_=>⟨rfl,rfl⟩,λhh=>by simp at hh,λ_=>rfl,λhh=>absurd rfl hh,λ_=>rfl,by simp,λ_=>⟨rfl,rfl⟩,λhh=>by simp at hh,λ_=>rfl⟩,.inl ⟨rfl,rfl⟩,by simp,Fm.nil ..⟩
    all_goals
     refine (show ∀(hy:H) (s:List Nat) (tb:Bool) (b7:Nat) (f:L2),_ from Cg) _ c.name _ h1.nx _ rfl om (by simp;omega) tqA ?_ Ce om om (A2 ..)
     show (H.put _ _ _).m.get _=_
     rw [Aq _ _ _ (show h1.nx≠bq by omega)]
     exact A2 ..
theorem r42 (Fg:R38 ctx) (h79:R79 ctx) (h80:R80 ctx 3) (hN:100<N) (tk:Nat) (vl:AV) (L:List Int) (bq:Nat) (h:H) (cv:AV) (A1:List Cl) (q:Qr) (vm:AV) (K:KIn tk vl L bq h cv A1) (hg:h.m.get bq=.cells (qc q .Bv .Bv vm) 26 .exact) (hz:QZ q):
 Ah H0 (λ_ h1=>TQ tk vl bq h h1/\Afg bq h.nx A1 q vm h1) (Ay prog ctx N false 42 [.ptr tk 0,.ptr bq 0,cv] h):=by
 rw [e42]
 have hlen:∀hh,Fo cv hh=.ok (.int .i64 (A1.length:Int)) hh:=λ_=>K.c1.sl.Gs
 have A82:=K.Mu
 have hlp:0<A1.length:=List.length_pos_iff.2 K.ne
 refine Ey (hlen _) ?_
 refine M5 (K.Q.Adl ctx Fg _ h (TQ.refl K.Q.hi.at' K.Q.hq K.Q.hn) om) λv1 h1 e1 l1 Aad q1=>?_
 obtain ⟨i,rfl,i0,i1⟩:=q1
 exact Auk ctx N Fg h79 h80 hN tk vl L bq h cv A1 q vm K hz i.toNat i N h1 _ om om om ((TQ.refl K.Q.hi.at' K.Q.hq K.Q.hn).tg e1) ((Aad bq K.Q.lt K.Q.hn).trans hg)
end Go.Proofs
namespace Go.Proofs
open Go Go.Ev Go.Nm Go.Ev.Sx
attribute [local irreducible] Aa Al Af Ad
variable (ctx:Ac) (N:Nat)
theorem Hu.tg2 {tk k:Nat} {h h1:H} {v vl:AV} {l:List Cl} (hk:Hu k h v l) (hc:Hu tk h v l) (ht:H8 h tk vl) (e:TG tk vl h h1):Hu k h1 v l:=
 ⟨Sl.tg hc.sl ht hc.av e,hk.av,λc hh=>⟨(hk.ok c hh).Mu,Sl.tg (hc.ok c hh).words ht (hc.ok c hh).av e,(hk.ok c hh).av,(hk.ok c hh).one,(hk.ok c hh).cell⟩⟩
theorem Hu.tq3 {tk bq k:Nat} {h h1:H} {v vl:AV} {l:List Cl} (hk:Hu k h v l) (hc:Hu tk h v l) (hb:Hu bq h v l) (ht:H8 h tk vl) (hq:Vu 20 (h.m.get bq)=true) (hn:bq≠tk) (e:TQ tk vl bq h h1):Hu k h1 v l:=
 ⟨Sl.tq hc.sl ht hc.av hb.av hq hn e,hk.av,λc hh=>⟨(hk.ok c hh).Mu,Sl.tq (hc.ok c hh).words ht (hc.ok c hh).av (hb.ok c hh).av hq hn e,(hk.ok c hh).av,(hk.ok c hh).one,(hk.ok c hh).cell⟩⟩
structure SIn (tk:Nat) (vl:AV) (L:List Int) (sv:AV) (ss:List Sc) (lo:Nat) (h:H):Prop where
 hi:H9 tk vl L h
 lt:lo<=tk
 av:∀k,lo<=k->Av k vl
 all:∀k,lo<=k->W9 k h sv ss
 cz:∀s∈ss,∀b off len cap z ex,s.cv=.sl b off len cap z ex->0<len->b<lo/\∀k,B5 (h.m.get b)=some k->k<lo
theorem SIn.tg {tk lo:Nat} {vl sv:AV} {L:List Int} {ss:List Sc} {h h1:H} (S:SIn tk vl L sv ss lo h) (e:TG tk vl h h1):SIn tk vl L sv ss lo h1:=by
 have ht:=S.hi.at'
 have hcz:∀s∈ss,∀b off len cap z ex,s.cv=.sl b off len cap z ex->0<len->b<lo/\∀k,B5 (h1.m.get b)=some k->k<lo:=by
  intro s hs b off len cap z ex hv h0
  obtain ⟨q1,q2⟩:=S.cz s hs b off len cap z ex hv h0
  have:=S.lt
  have:=ht.lt
  refine ⟨q1,λk hk=>q2 k ?_⟩
  rw [<- hk,e.Cf b om om]
 refine ⟨S.hi.tg e,S.lt,S.av,λk hk=>?_,hcz⟩
 have a:=S.all k hk
 have c:=S.all tk S.lt
 refine ⟨a.ne,a.Mu,Sl.tg a.sl ht c.av e,a.av,λs hs=>?_⟩
 have ax:=a.ok s hs
 have cs:=c.ok s hs
 refine ⟨ax.nn,ax.ne,ax.Mu,ax.A1.tg2 cs.A1 ht e,ax.one,ax.cell,λb off len cap z ex hv h0=>?_⟩
 obtain ⟨q1,q2⟩:=hcz s hs b off len cap z ex hv h0
 exact ⟨by omega,λk hk=>by have:=q2 k hk;omega⟩
theorem SIn.gr {tk lo:Nat} {vl sv:AV} {L:List Int} {ss:List Sc} {h h1:H} (S:SIn tk vl L sv ss lo h) (e:Ai h h1):SIn tk vl L sv ss lo h1:=S.tg ((TG.refl S.hi.at').gr e)
theorem SIn.tq {tk lo bq:Nat} {vl sv:AV} {L:List Int} {ss:List Sc} {h h1:H} (S:SIn tk vl L sv ss lo h) (hb:lo<=bq) (hq:Vu 20 (h.m.get bq)=true) (hn:bq≠tk) (e:TQ tk vl bq h h1):SIn tk vl L sv ss lo h1:=by
 have ht:=S.hi.at'
 have hcz:∀s∈ss,∀b off len cap z ex,s.cv=.sl b off len cap z ex->0<len->b<lo/\∀k,B5 (h1.m.get b)=some k->k<lo:=by
  intro s hs b off len cap z ex hv h0
  obtain ⟨q1,q2⟩:=S.cz s hs b off len cap z ex hv h0
  have:=S.lt
  have:=ht.lt
  refine ⟨q1,λk hk=>q2 k ?_⟩
  rw [<- hk,e.Cf b om om om]
 refine ⟨S.hi.tq (S.av bq hb) hq hn e,S.lt,S.av,λk hk=>?_,hcz⟩
 have a:=S.all k hk
 have c:=S.all tk S.lt
 have d:=S.all bq hb
 refine ⟨a.ne,a.Mu,Sl.tq a.sl ht c.av d.av hq hn e,a.av,λs hs=>?_⟩
 have ax:=a.ok s hs
 refine ⟨ax.nn,ax.ne,ax.Mu,ax.A1.tq3 (c.ok s hs).A1 (d.ok s hs).A1 ht hq hn e,ax.one,ax.cell,λb off len cap z ex hv h0=>?_⟩
 obtain ⟨q1,q2⟩:=hcz s hs b off len cap z ex hv h0
 exact ⟨by omega,λk hk=>by have:=q2 k hk;omega⟩
theorem SIn.q {tk lo bq:Nat} {vl sv:AV} {L:List Int} {ss:List Sc} {h:H} (S:SIn tk vl L sv ss lo h) (hb:lo<=bq) (hq:Vu 20 (h.m.get bq)=true) (hn:bq≠tk) (hl:bq<h.nx):QIn tk vl L bq h:=⟨S.hi,S.av bq hb,hn,hl,hq⟩
theorem TQ.ApZ {tk bq:Nat} {vl:AV} {h0 h h1:H} (e:TQ tk vl bq h h1) (g:Ai h0 h) (ht:h0.nx<=tk) (hb:h0.nx<=bq):Ai h0 h1:=by
 obtain ⟨o,ho,m,hm,e⟩:=e
 exact ((g.put bq o hb).put tk _ ht).trans e
theorem Sb {tk:Nat} {vl:AV} {h0 h h1:H} (e:TG tk vl h h1) (g:Ai h0 h) (ht:h0.nx<=tk):Ai h0 h1:=by
 obtain ⟨m,hm,e⟩:=e
 exact (g.put tk _ ht).trans e
theorem AvI {ss:List Sc} {l:List Cl} {k:Nat} {cv sv:AV} {h h1:H} (hm:∀c∈l,∃s∈ss,c∈s.A1) (ho:Fm 4 h.nx 96 h1 cv l.length (l.flatMap Hx)) (hs:W9 k h sv ss) (hk:k<h.nx) (g:Ai h h1):Hu k h1 cv l:=by
 refine ⟨ho.sl,λb off len cap z ex hv h0=>?_,λc hc=>?_⟩
 . have:=W7.own ho b off len cap z ex hv h0
   omega
 . obtain ⟨s,h1,h2⟩:=hm c hc
   exact ((hs.ok s h1).A1.ok c h2).By g.keeps
def Sw:List (List Nat):=[[50],[51,47,50],[49,49,47,49,48],[51],[49,48,49,47,49,48,48]]
structure Aqh (ss:List Sc) (q:Qr):Prop where
 tbl:∃a∈ss,a.name=q.Uw/\(q.W0=0\/a.pub=false/\1<=q.W0/\q.W0<=4)/\(q.Wu=[]/\q.s14=[]/\q.s15=[]/\q.c16=0\/∃b∈ss,b.name=q.Wu/\(a.pub=true->b.pub=true)/\(∃c∈a.A1,c.name=q.s14)/\(∃c∈b.A1,c.name=q.s15)/\q.s14=q.s15/\1<=q.c16/\q.c16<=3)
 kind:1<=q.c0/\q.c0<=10
 fac:q.Oi∈Sw
 bits:1<=q.Mg/\q.Mg<=12
def AaF (ss:List Sc) (q:Qr):List Cl:=Ab1 ss q.Uw++Ab1 ss q.Wu
structure QOk (ss:List Sc) (q:Qr):Prop where
 pre:Aqh ss q
 kv:∃q0,KV (AaF ss q) q0 q
 code:q.code=[]\/∃t,E7 (AaR (AaF ss q)) false t/\size t<=Sd 3/\q.code=t.nodes
 E9:q.E9=[]\/∃t,E7 (AaR (AaF ss q)) true t/\size t<=Sd 3/\q.E9=t.nodes
 ord:q.ord.length<=4
theorem Aqh.kv {ss:List Sc} {q q':Qr} {A1:List Cl} (h:Aqh ss q) (k:KV A1 q q'):Aqh ss q':=by
 have e:=k.same
 have e0:q'.c0=q.c0:=by rw [e]
 have e1:q'.Uw=q.Uw:=by rw [e]
 have e2:q'.W0=q.W0:=by rw [e]
 have e3:q'.Wu=q.Wu:=by rw [e]
 have e4:q'.s14=q.s14:=by rw [e]
 have e5:q'.s15=q.s15:=by rw [e]
 have e6:q'.c16=q.c16:=by rw [e]
 have e7:q'.Oi=q.Oi:=by rw [e]
 have e8:q'.Mg=q.Mg:=by rw [e]
 obtain ⟨h1,h2,h3,h4⟩:=h
 exact ⟨by rw [e1,e2,e3,e4,e5,e6];exact h1,by rw [e0];exact h2,by rw [e7];exact h3,by rw [e8];exact h4⟩
def AgH (ss:List Sc) (r:AV) (h1:H):Prop:=∃(q:Qr) (vc vo vm:AV),r=.agg (qc q vc vo vm)/\QV h1 q vc vo vm/\QOk ss q
def Ag3 (D:Dom) (lo:Nat) (h:H) (vm:AV) (l:List Nd):Prop:=(l=[]/\vm=.Bv)\/∃t,E7 D true t/\size t<=Sd 3/\l=t.nodes/\Oo lo h vm t.nodes
theorem A3a {h0 h:H} (g:Ai h0 h) (bq rb lo:Nat) (q:Qr) (vc vo vm:AV) (hg:h.m.get bq=.cells (qc q vc vo vm) 26 .exact) (hr:h.m.get rb=.cells zq 26 .exact) (hr0:h0.nx<=rb) (hrl:rb<lo) (Hr:rb≠bq) {D:Dom} {ss:List Sc} (hc:AoM D lo h vc q.code) (hm:Ag3 D lo h vm q.E9) (Ga:QOk ss q) (ho:Fm 2 lo 33 h vo q.ord.length (q.ord.flatMap Zd)):
 Ah h0 (AgH ss) (Aa (Ae (some (some 20)) (.ptr bq 0) h) λv12 Gd=>Aa (A4 20 (.ptr rb 0) v12 Gd) λE0 It=>Vk [.c (some (some 20)) (.ptr rb 0)] It):=by
 obtain ⟨o1,o2⟩:=B2 ho.sl
 have W0:Ge vc=true/\cellsOf vc=some [vc]:=by
  rcases hc with ⟨_,rfl⟩|⟨t,_,_,_,nf⟩
  . exact ⟨rfl,rfl⟩
  . exact nf.one
 have m12:Ge vm=true/\cellsOf vm=some [vm]:=by
  rcases hm with ⟨_,rfl⟩|⟨t,_,_,_,nf⟩
  . exact ⟨rfl,rfl⟩
  . exact nf.one
 obtain ⟨c1,c2⟩:=W0
 obtain ⟨m1,m2⟩:=m12
 have hic:Vu (qc q vc vo vm).length (h.m.get rb)=true:=by rw [hr];rfl
 refine wk ?_
 refine zr Ex ⟨q,vc,vo,vm,rfl,⟨?_,?_,?_⟩,Ga⟩
 . rcases hc with ⟨h1,rfl⟩|⟨t,_,_,h1,nf⟩
   . rw [h1];exact .inl ⟨rfl,rfl,rfl⟩
   . rw [h1];exact (nf.To hrl hic).sl
 . exact (Fm.To ho hrl hic).sl
 . rcases hm with ⟨h1,rfl⟩|⟨t,_,_,h1,nf⟩
   . rw [h1];exact .inl ⟨rfl,rfl,rfl⟩
   . rw [h1];exact (nf.To hrl hic).sl
theorem AoM.Y5 {D:Dom} {lo Z6:Nat} {h:H} {v:AV} {l:List Nd} (hc:AoM D lo h v l) (hl:Z6<=lo):AoM D Z6 h v l:=by
 rcases hc with h1|⟨t,a1,a2,a3,a4⟩
 . exact .inl h1
 . exact .inr ⟨t,a1,a2,a3,a4.Y5 hl⟩
theorem Ag3.tq {D:Dom} {lo tk bq:Nat} {vl v:AV} {h h1:H} {m:List Nd} (hv:Ag3 D lo h v m) (ht:H8 h tk vl) (hq:Vu 20 (h.m.get bq)=true) (hn:bq≠tk) (h2:tk<lo) (h3:bq<lo) (e:TQ tk vl bq h h1):Ag3 D lo h1 v m:=by
 rcases hv with h1|⟨t,a1,a2,a3,a4⟩
 . exact .inl h1
 . exact .inr ⟨t,a1,a2,a3,a4.tq ht hq hn h2 h3 e⟩
theorem Asm (Nj:R42 ctx) {h0 h:H} (tk:Nat) (vl:AV) (L:List Int) (bq rb lo:Nat) (cv:AV) (A1:List Cl) (K:KIn tk vl L bq h cv A1) (q:Qr) (vm:AV) (hg:h.m.get bq=.cells (qc q .Bv .Bv vm) 26 .exact) (hz:QZ q) {ss:List Sc} (Ga:∀q',KV A1 q q'->(q'.code=[]\/∃t,E7 (AaR A1) false t/\size t<=Sd 3/\q'.code=t.nodes)->q'.ord.length<=4->QOk ss q') (g0:Ai h0 h) (ht0:h0.nx<=tk) (Sz:h0.nx<=bq) (hr:h.m.get rb=.cells zq 26 .exact) (hr0:h0.nx<=rb) (hrl:rb<lo) (Hr:rb≠bq) (hnr:rb≠tk) (Kf:lo<=h.nx) (B6:tk<lo) (hlb:bq<lo) (hm:Ag3 (AaR A1) lo h vm q.E9):
 Ah h0 (AgH ss) (Aa (ctx.call 42 [.ptr tk 0,.ptr bq 0,cv] h) λv11 Kc=>Aa (Ae (some (some 20)) (.ptr bq 0) Kc) λv12 Gd=>Aa (A4 20 (.ptr rb 0) v12 Gd) λE0 It=>Vk [.c (some (some 20)) (.ptr rb 0)] It):=by
 obtain ⟨v,h1,e1,_,tq,q',vc,vo,p1,p2,p3,p4,p5⟩:=Nj tk vl L bq h cv A1 q vm K hg hz
 rw [e1]
 refine Wb ?_
 have hmm:q'.E9=q.E9:=by rw [p2.same]
 refine A3a (tq.ApZ g0 ht0 Sz) bq rb lo q' vc vo vm p1 ?_ hr0 hrl Hr (p3.Y5 Kf) (hmm ▸ hm.tq K.Q.hi.at' K.Q.hq K.Q.hn B6 hlb tq) (Ga q' p2 ?_ p4) (Yp p5 Kf)
 . exact (tq.Cf rb om hnr Hr).trans hr
 . rcases p3 with ⟨h1,_⟩|⟨t,b1,b2,b3,_⟩
   . exact .inl h1
   . exact .inr ⟨t,b1,b2,b3⟩
set_option maxHeartbeats 2000000 in
theorem Bai {ss:List Sc} (h:SsV ss) {s:Sc} (hs:s∈ss) {c:Cl} (hc:c∈s.A1):AdD c.a c.b c.ws:=by
 obtain ⟨all,_,h2,_,h4⟩:=h
 obtain ⟨_,sub,q1,q2⟩:=h4 s hs
 have h5:Px c∈sub.map Px:=q2 ▸ List.mem_map_of_mem hc
 obtain ⟨d,h6,h7⟩:=List.mem_map.1 h5
 have h8:=h2 d (List.mem_of_mem_take (q1.subset h6))
 simp only [Px,Prod.mk.injEq] at h7
 obtain ⟨_,e1,e2,e3⟩:=h7
 rw [<- e1,<- e2,<- e3]
 exact h8
theorem A9t (Fg:R38 ctx) (Va:R40 ctx) (We:R41 ctx 3) (Nj:R42 ctx) {h0:H} (tk:Nat) (vl sv:AV) (L:List Int) (ss:List Sc) (bq rb:Nat) (h:H) (g0:Ai h0 h) (S:SIn tk vl L sv ss h0.nx h) (q:Qr) (hg:h.m.get bq=.cells (qc q .Bv .Bv .Bv) 26 .exact) (Sz:h0.nx<=bq) (G8:bq<h.nx) (hn:bq≠tk) (hr:h.m.get rb=.cells zq 26 .exact) (hr0:h0.nx<=rb) (hrl:rb<h.nx) (Hr:rb≠bq) (hnr:rb≠tk) (hz:QZ q) (hqm:q.E9=[]) (hV:SsV ss) (hP:Aqh ss q) (f0:L2):
 Ah h0 (AgH ss) (Ag7 ctx N sv (.ptr rb 0) (.ptr tk 0) (.ptr bq 0) f0 h):=by
 have B6:=S.hi.at'.lt
 have htl:=S.lt
 have ic:Vu 20 (h.m.get bq)=true:=by rw [hg];rfl
 have t0:TQ tk vl bq h h:=TQ.refl S.hi.at' ic hn
 have hT:=(S.q Sz ic hn G8).Adl ctx Fg
 obtain ⟨c0,code,c2,c3,c4,c5,s6,c7,ord,c9,Wz,Uw,W0,Yc,Sk,Uo,U3,E9,Oi,Mg⟩:=q
 have hnm:∃s∈ss,s.name=Uw:=by
  obtain ⟨a,h1,h2,_⟩:=hP.tbl
  exact ⟨a,h1,h2⟩
 obtain ⟨y1,y2,y3,y4,y5,y6,y7,y8,y9⟩:=hz
 simp only at y1 y2 y3 y4 y5 y6 y7 y8 y9 hqm
 subst y1
 subst y2
 subst y3
 subst y4
 subst y5
 subst y6
 subst y7
 subst y8
 subst y9
 subst hqm
 rw [AwI]
 refine wk ?_
 refine Fj (Va tk ss sv Uw Yc h (S.all tk htl) hnm) λcv h1 e1 l1 Aad q1=>?_
 obtain ⟨l,hle,a1,a2,a4,a3⟩:=q1
 have S7:∀c∈l,AdD c.a c.b c.ws:=λc hc=>by
  obtain ⟨s,b1,b2⟩:=a3 c hc
  exact Bai hV b1 b2
 have Ga:∀(mm:List Nd),(mm=[]\/∃t,E7 (AaR l) true t/\size t<=Sd 3/\mm=t.nodes)->∀q',KV l ⟨c0,[],0,0,0,0,s6,0,[],0,false,Uw,W0,Yc,Sk,Uo,U3,mm,Oi,Mg⟩ q'->(q'.code=[]\/∃t,E7 (AaR l) false t/\size t<=Sd 3/\q'.code=t.nodes)->q'.ord.length<=4->QOk ss q':=by
  intro mm hmm q' k1 k2 k3
  have e1:q'.Uw=Uw:=by rw [k1.same]
  have e2:q'.Wu=Yc:=by rw [k1.same]
  have e3:AaF ss q'=l:=by rw [AaF,e1,e2,hle]
  have e4:q'.E9=mm:=by rw [k1.same]
  exact ⟨Aqh.kv (q:=⟨c0,[],0,0,0,0,s6,0,[],0,false,Uw,W0,Yc,Sk,Uo,U3,mm,Oi,Mg⟩) ⟨hP.tbl,hP.kind,hP.fac,hP.bits⟩ k1,⟨_,e3.symm ▸ k1⟩,by rw [e3];exact k2,by rw [e3,e4];exact hmm,k3⟩
 replace Ga:=(show F5 _ from Ga)
 have ct1:=AvI a3 a4 (S.all tk htl) B6 e1
 have cb1:=AvI a3 a4 (S.all bq Sz) G8 e1
 have t1:TQ tk vl bq h h1:=t0.gr e1
 have g1:=(Aad bq G8).trans hg
 have r1:=(Aad rb hrl).trans hr
 have S1:=S.gr e1
 have ic1:=t1.isc hn G8
 have K1:KIn tk vl L bq h1 cv l:=⟨S1.q Sz ic1 hn om,ct1,cb1,a1,a2,S7⟩
 refine M5 (hT 2 h1 t1 om) λv2 h2 e2 l2 Aae q2=>?_
 obtain ⟨j,rfl,j0,j1⟩:=q2
 have t2:TQ tk vl bq h1 h2:=(TQ.refl S1.hi.at' ic1 hn).tg e2
 have K2:=K1.tq t2
 have g2:=(Aae bq om hn).trans g1
 have r2:=(Aae rb om hnr).trans r1
 have g00:Ai h0 h2:=Sb e2 (g0.trans e1) htl
 repeat' (first|refine wk ?_|(refine zqq ?_ ?_<;>intro hc<;>(try (exfalso;omega)))|fail)
 . refine M5 (We tk vl L cv l 3 h2 rfl K2.Q.hi K2.c1 K2.ne K2.Mu) λv3 h3 e3 l3 Ary q3=>?_
   obtain ⟨t,y1,y2,nf⟩:=q3
   obtain ⟨n1,n2⟩:=nf.one
   have g3:=(Ary bq om hn).trans g2
   have r3:=(Ary rb om hnr).trans r2
   have t3:TQ tk vl bq h2 h3:=(TQ.refl K2.Q.hi.at' K2.Q.hq hn).tg e3
   refine wk ?_
   have t4:TQ tk vl bq h2 (h3.put bq (.cells [.int .i64 c0,.Bv,.int .i64 0,.int .i64 0,.int .i64 0,.int .i64 0,.str s6,.int .i64 0,.Bv,.int .i64 0,.bool false,.str Uw,.int .i64 W0,.str Yc,.str Sk,.str Uo,.int .i64 U3,v3,.str Oi,.int .i64 Mg] 26 .exact)):=t3.put _ rfl hn
   refine Asm ctx Nj tk vl L bq rb h2.nx cv l (K2.tq t4) ⟨c0,[],0,0,0,0,s6,0,[],0,false,Uw,W0,Yc,Sk,Uo,U3,t.nodes,Oi,Mg⟩ v3 (A2 ..) ⟨rfl,rfl,rfl,rfl,rfl,rfl,rfl,rfl,rfl⟩ ((show ∀(mm:List Nd),_ from Ga) t.nodes (.inr ⟨t,y1,y2,rfl⟩)) (t4.ApZ g00 htl Sz) htl Sz ?_ hr0 om Hr hnr l3 om om ?_
   . exact (Aq _ _ _ Hr).trans r3
   . exact .inr ⟨t,y1,y2,rfl,nf.To om (by rw [g3];rfl)⟩
 . exact Asm ctx Nj tk vl L bq rb h2.nx cv l K2 ⟨c0,[],0,0,0,0,s6,0,[],0,false,Uw,W0,Yc,Sk,Uo,U3,[],Oi,Mg⟩ .Bv g2 ⟨rfl,rfl,rfl,rfl,rfl,rfl,rfl,rfl,rfl⟩ ((show ∀(mm:List Nd),_ from Ga) [] (.inl rfl)) g00 htl Sz r2 hr0 om Hr hnr (Nat.le_refl _) om om (.inl ⟨rfl,rfl⟩)
theorem Ai6 {tk:Nat} {h:H} {sv:AV} {ss:List Sc} {j:Int} (hs:W9 tk h sv ss) (j0:0<=j) (j1:j<(ss.length:Int)):∃s b o,s∈ss/\(∀hh,Gc 4 sv (.int .i64 j) hh=.ok (.ptr b o) hh)/\∀hh,Bi h hh->Ae (some (some 4)) (.ptr b o) hh=.ok (.agg (Ze s)) hh:=by
 have X4:((j.toNat:Nat):Int)=j:=Int.toNat_of_nonneg j0
 obtain ⟨s,hsi⟩:∃s,ss[j.toNat]?=some s:=⟨_,List.getElem?_eq_getElem om⟩
 obtain ⟨b,o,el⟩:=R0.elem (f:=Ze) (s:=4) (λ_=>rfl) hs.sl hsi
 have x1:=el.ia
 rw [X4] at x1
 exact ⟨s,b,o,List.mem_of_getElem? hsi,x1,el.all⟩
set_option maxHeartbeats 2000000 in
theorem A9s (Fg:R38 ctx) (U9:R39 ctx) (Va:R40 ctx) (We:R41 ctx 3) (Nj:R42 ctx) {h0:H} (tk:Nat) (vl sv:AV) (L:List Int) (ss:List Sc) (bq rb b8:Nat) (h:H) (g0:Ai h0 h) (S:SIn tk vl L sv ss h0.nx h) (q:Qr) (hg:h.m.get bq=.cells (qc q .Bv .Bv .Bv) 26 .exact) (Sz:h0.nx<=bq) (G8:bq<h.nx) (hn:bq≠tk) (hr:h.m.get rb=.cells zq 26 .exact) (hr0:h0.nx<=rb) (hrl:rb<h.nx) (Hr:rb≠bq) (hnr:rb≠tk) (hz:QZ q) (hqm:q.E9=[]) (hV:SsV ss) (hj0:q.Wu=[]/\q.s14=[]/\q.s15=[]/\q.c16=0) (hkd:1<=q.c0/\q.c0<=10) (hfc:q.Oi∈Sw) (hbt:1<=q.Mg/\q.Mg<=12) (a:Sc) (ha:a∈ss) (hnm:a.name=q.Uw) (hkp:q.W0=0\/a.pub=false/\1<=q.W0/\q.W0<=4) (g8:h.m.get b8=.cells (Ze a) 73 .exact) (l8:b8<h.nx) (n8:b8≠tk) (m8:b8≠bq) (f0:L2):
 Ah h0 (AgH ss) (Ag6 ctx N sv (.ptr rb 0) (.ptr tk 0) (.ptr b8 0) (.ptr bq 0) f0 h):=by
 have B6:=S.hi.at'.lt
 have htl:=S.lt
 have ic:Vu 20 (h.m.get bq)=true:=by rw [hg];rfl
 have t0:TQ tk vl bq h h:=TQ.refl S.hi.at' ic hn
 have hT:=(S.q Sz ic hn G8).Adl ctx Fg
 have hlen:∀hh,Fo sv hh=.ok (.int .i64 (ss.length:Int)) hh:=λ_=>(S.all tk htl).sl.Gs
 have hss:=(S.all tk htl).Mu
 have hsp:0<ss.length:=List.length_pos_iff.2 (S.all tk htl).ne
 have Cg:∀(hy:H) (q':Qr) (f:L2),TQ tk vl bq h hy->hy.m.get bq=.cells (qc q' .Bv .Bv .Bv) 26 .exact->QZ q'->q'.E9=[]->Aqh ss q'->Ah h0 (AgH ss) (Ag7 ctx N sv (.ptr rb 0) (.ptr tk 0) (.ptr bq 0) f hy):=by
  intro hy q' f ty gy z1 z3 z4
  have hl:=ty.lo
  exact A9t ctx N Fg Va We Nj tk vl sv L ss bq rb hy (ty.ApZ g0 htl Sz) (S.tq Sz ic hn ty) q' gy Sz om hn ((ty.Cf rb hrl hnr Hr).trans hr) hr0 om Hr hnr z1 z3 hV z4 f
 replace Cg:=(show F5 _ from Cg)
 rw [AwH]
 refine Ey (hlen _) ?_
 refine M5 (hT _ h t0 om) λv2 h2 e2 l2 Aae q2=>?_
 obtain ⟨j,rfl,j0,j1⟩:=q2
 have S2:=S.tg e2
 obtain ⟨b,b',o,hb,x1,x2⟩:=Ai6 (S2.all tk htl) j0 om
 have t2:TQ tk vl bq h h2:=t0.tg e2
 have g2:=(Aae bq om hn).trans hg
 have k2:=(Aae b8 om n8).trans g8
 have w1:=((S2.all tk htl).ok b hb).one
 have w2:=((S2.all tk htl).ok b hb).cell
 have w3:=((S2.all tk htl).ok a ha).one
 have w4:=((S2.all tk htl).ok a ha).cell
 obtain ⟨bn,bp,bm,bcv,bcs⟩:=b
 obtain ⟨an,ap,am,acv,acs⟩:=a
 simp only at w1 w2 w3 w4 hnm hkp
 subst hnm
 have hJ:∀hx,TQ tk vl bq h hx->hx.m.get bq=.cells (qc q .Bv .Bv .Bv) 26 .exact->Ah H0 (λ_ h1=>TQ tk vl bq hx h1/\JQ ⟨q.Uw,ap,am,acv,acs⟩ ⟨bn,bp,bm,bcv,bcs⟩ q .Bv .Bv .Bv bq h1) (ctx.call 39 [.ptr tk 0,.ptr bq 0,.agg (Ze ⟨q.Uw,ap,am,acv,acs⟩),.agg (Ze ⟨bn,bp,bm,bcv,bcs⟩)] hx):=by
  intro hx ex gx
  have Sx':=S.tq Sz ic hn ex
  have X6:=ex.lo
  exact U9 tk vl L bq hx q .Bv .Bv .Bv _ _ ⟨Sx'.hi,Sx'.av bq Sz,hn,by omega,⟨rfl,rfl⟩,⟨rfl,rfl⟩,⟨rfl,rfl⟩,ex.isc hn G8,(Sx'.all tk htl).ok _ ha,(Sx'.all bq Sz).ok _ ha,(Sx'.all tk htl).ok _ hb,(Sx'.all bq Sz).ok _ hb⟩ gx
 replace hJ:=(show F5 _ from hJ)
 clear S S2 U9 Va We Nj Fg
 repeat' (first|with_reducible (first|apply A7|apply A8|apply A9|apply Ba)|((with_reducible apply M5);exact hT _ _ tqA om;intro vv hh ee E8 Bu qq;(try simp only [C9] at E8 Bu);obtain ⟨jj,rfl,j0,j1⟩:=qq)|(with_reducible (first|apply Cy|apply Cz|apply C0|apply C1);(conv=>lhs;simp (disch:=first|exact dA|fail) [lw, *,x1,x2,k2]);with_reducible (first|apply A7|apply A8|apply A9|apply Ba|apply Cu|(refine Cv (by simp) ?_)|(apply Cw<;>intro hc<;>(try simp only [Bt] at hc)<;>(try (exfalso;omega)))))|(with_reducible (first|apply C2|apply C3|apply C4|apply C5)<;>intro hc<;>(try simp only [Bt] at hc)<;>(try (exfalso;omega))))
 . obtain rfl:ap=false:=by assumption
   have th:TQ tk vl bq h hh:=tqA
   have gh:hh.m.get bq=.cells (qc q .Bv .Bv .Bv) 26 .exact:=N4
   obtain ⟨v,h1,e1,_,tq,Wu,s14,s15,c16,jv,gq⟩:=(show ∀hx,TQ tk vl bq h hx->hx.m.get bq=.cells (qc q .Bv .Bv .Bv) 26 .exact->_ from hJ) hh th gh
   refine Ey e1 ?_
   refine (show ∀(hy:H) (q':Qr) (f:L2),_ from Cg) h1 _ _ (th.trans tq hn) gq ⟨hz.code,hz.c2,hz.c3,hz.c4,hz.c5,hz.c7,hz.ord,hz.c9,hz.Wz⟩ hqm ⟨⟨_,ha,rfl,hkp,?_⟩,hkd,hfc,hbt⟩
   rcases jv with ⟨j1,j2,j3,j4⟩|⟨j1,j2,j3,j4,j5,j6⟩
   . exact .inl ⟨j1.trans hj0.1,j2.trans hj0.2.1,j3.trans hj0.2.2.1,j4.trans hj0.2.2.2⟩
   . exact .inr ⟨_,hb,j1.symm,λhx=>(by cases hx),j2,j3,j4,j5,j6⟩
 . obtain rfl:ap=true:=by assumption
   obtain rfl:bp=true:=by assumption
   have th:TQ tk vl bq h hh:=tqA
   have gh:hh.m.get bq=.cells (qc q .Bv .Bv .Bv) 26 .exact:=N4
   obtain ⟨v,h1,e1,_,tq,Wu,s14,s15,c16,jv,gq⟩:=(show ∀hx,TQ tk vl bq h hx->hx.m.get bq=.cells (qc q .Bv .Bv .Bv) 26 .exact->_ from hJ) hh th gh
   refine Ey e1 ?_
   refine (show ∀(hy:H) (q':Qr) (f:L2),_ from Cg) h1 _ _ (th.trans tq hn) gq ⟨hz.code,hz.c2,hz.c3,hz.c4,hz.c5,hz.c7,hz.ord,hz.c9,hz.Wz⟩ hqm ⟨⟨_,ha,rfl,hkp,?_⟩,hkd,hfc,hbt⟩
   rcases jv with ⟨j1,j2,j3,j4⟩|⟨j1,j2,j3,j4,j5,j6⟩
   . exact .inl ⟨j1.trans hj0.1,j2.trans hj0.2.1,j3.trans hj0.2.2.1,j4.trans hj0.2.2.2⟩
   . exact .inr ⟨_,hb,j1.symm,λ_=>rfl,j2,j3,j4,j5,j6⟩
 all_goals
  have gh:hh.m.get bq=.cells (qc q .Bv .Bv .Bv) 26 .exact:=N4
  exact (show ∀(hy:H) (q':Qr) (f:L2),_ from Cg) hh q _ tqA gh hz hqm ⟨⟨_,ha,rfl,hkp,.inl hj0⟩,hkd,hfc,hbt⟩
end Go.Proofs
namespace Go.Proofs
open Go Go.Ev Go.Nm Tryz Go.Ev.Sx
attribute [local irreducible] Aa Al Af Ad
variable (ctx:Ac) (N:Nat)
theorem AuP {vl sv:AV} {L:List Int} {ss:List Sc} {h:H} (o:AO) (hv:Lf h vl L) (hl:(L.length:Int)<=9223372036854775807) (hS:∀k,h.nx<=k->W9 k h sv ss):SIn (h.nx+1) vl L sv ss h.nx ((h.new o).new (tkC vl 0)):=by
 have g:Ai h (h.new o):=(Ai.refl h).new o
 have g2:Ai h ((h.new o).new (tkC vl 0)):=g.new _
 have hcz:∀s∈ss,∀b off len cap z ex,s.cv=.sl b off len cap z ex->0<len->b<h.nx/\∀k,B5 (((h.new o).new (tkC vl 0)).m.get b)=some k->k<h.nx:=by
  intro s hs b off len cap z ex hv h0
  obtain ⟨q1,q2⟩:=((hS h.nx (Nat.le_refl _)).ok s hs).cz b off len cap z ex hv h0
  refine ⟨q1,λk hk=>q2 k ?_⟩
  rw [<- hk,g2.Cf b q1]
 refine ⟨AkJ (h:=h.new o) (Sl.By hv g.keeps) hl,Nat.le_succ _,λk hk=>Sl.av hv hk,λk hk=>?_,hcz⟩
 have a:=hS k hk
 refine ⟨a.ne,a.Mu,Sl.By a.sl g2.keeps,a.av,λs hs=>?_⟩
 have ax:=a.ok s hs
 refine ⟨ax.nn,ax.ne,ax.Mu,ax.A1.By g2.keeps,ax.one,ax.cell,λb off len cap z ex hv h0=>?_⟩
 obtain ⟨q1,q2⟩:=hcz s hs b off len cap z ex hv h0
 exact ⟨by omega,λk hk=>by have:=q2 k hk;omega⟩
def R14:Prop:=∀(vl sv:AV) (L:List Int) (ss:List Sc) (h:H),Lf h vl L->(L.length:Int)<=9223372036854775807->(∀k,h.nx<=k->W9 k h sv ss)->SsV ss->Ah h (AgH ss) (ctx.call 14 [vl,sv] h)
set_option maxHeartbeats 2000000 in
theorem r14 (Fg:R38 ctx) (U9:R39 ctx) (Va:R40 ctx) (We:R41 ctx 3) (Nj:R42 ctx) (vl sv:AV) (L:List Int) (ss:List Sc) (h:H) (hv:Lf h vl L) (hl:(L.length:Int)<=9223372036854775807) (hS:∀k,h.nx<=k->W9 k h sv ss) (hV:SsV ss):Ah h (AgH ss) (Ay prog ctx N false 14 [vl,sv] h):=by
 rw [e14]
 obtain ⟨o1,o2⟩:=B2 hv
 have hss:=(hS _ (Nat.le_refl _)).Mu
 have hsp:0<ss.length:=List.length_pos_iff.2 (hS _ (Nat.le_refl _)).ne
 have hlen:∀hh,Fo sv hh=.ok (.int .i64 (ss.length:Int)) hh:=λ_=>(hS _ (Nat.le_refl _)).sl.Gs
 have S:=AuP (.cells zq 26 .exact) hv hl hS
 have gB:Ai h ((h.new (.cells zq 26 .exact)).new (tkC vl 0)):=((Ai.refl h).new _).new _
 have rB:((h.new (.cells zq 26 .exact)).new (tkC vl 0)).m.get h.nx=.cells zq 26 .exact:=by
  rw [Cq (h:=h.new _) _ h.nx (by show h.nx≠h.nx+1;omega)]
  exact Bf _
 have xB:((h.new (.cells zq 26 .exact)).new (tkC vl 0)).nx=h.nx+2:=rfl
 refine wk ?_
 generalize (h.new (.cells zq 26 .exact)).new (tkC vl 0)=hB at *
 have hT:∀(k:Int) (hx:H),TG (h.nx+1) vl hB hx->k<=9223372036854775807->D6 (h.nx+1) vl hx (Below k) (ctx.call 38 [.ptr (h.nx+1) 0,.int .i64 k] hx):=λk hx e hk=>
  Fg (h.nx+1) vl L k hx (S.hi.tg e).at' (S.hi.tg e).ints S.hi.av S.hi.len hk
 have B6:=S.hi.at'.lt
 refine M5 (hT _ hB (TG.refl S.hi.at') om) λv2 h2 e2 l2 Aae q2=>?_
 obtain ⟨j,rfl,j0,j1⟩:=q2
 have S2:=S.tg e2
 obtain ⟨a,b',o,ha,x1,x2⟩:=Ai6 (S2.all (h.nx+1) (Nat.le_succ _)) j0 om
 have w1:=((S2.all (h.nx+1) (Nat.le_succ _)).ok a ha).one
 have w2:=((S2.all (h.nx+1) (Nat.le_succ _)).ok a ha).cell
 obtain ⟨an,ap,am,acv,acs⟩:=a
 simp only at w1 w2
 have r2:=(Aae h.nx om om).trans rB
 have Cg:∀(hy:H) (q':Qr) (bq b8:Nat) (f:L2),TG (h.nx+1) vl h2 hy->h2.nx<=bq->bq<hy.nx->hy.m.get bq=.cells (qc q' .Bv .Bv .Bv) 26 .exact->QZ q'->q'.E9=[]->q'.Uw=an->(q'.Wu=[]/\q'.s14=[]/\q'.s15=[]/\q'.c16=0)->(1<=q'.c0/\q'.c0<=10)->q'.Oi∈Sw->(1<=q'.Mg/\q'.Mg<=12)->(q'.W0=0\/ap=false/\1<=q'.W0/\q'.W0<=4)->hy.m.get b8=.cells (Ze ⟨an,ap,am,acv,acs⟩) 73 .exact->b8<hy.nx->h2.nx<=b8->b8≠bq->Ah h (AgH ss) (Ag6 ctx N sv (.ptr h.nx 0) (.ptr (h.nx+1) 0) (.ptr b8 0) (.ptr bq 0) f hy):=by
  intro hy q' bq b8 f ty z0 z1 gy z2 z4 z5 y1 y2 y3 y4 y5 g8 z6 z7 z8
  have tl:=ty.lo
  exact A9s ctx N Fg U9 Va We Nj (h.nx+1) vl sv L ss bq h.nx b8 hy (Sb ty (Sb e2 gB (Nat.le_succ _)) (Nat.le_succ _)) (S2.tg ty) q' gy om z1 om ((ty.Cf h.nx om om).trans r2) (Nat.le_refl _) om om om z2 z4 hV y1 y2 y3 y4 _ ha z5.symm y5 g8 z6 om z8 f
 replace Cg:=(show F5 _ from Cg)
 have t2:TG (h.nx+1) vl hB h2:=e2
 have u2:TG (h.nx+1) vl h2 h2:=TG.refl S2.hi.at'
 clear S S2 U9 Va We Nj Fg hS hV hv hl r2 rB gB Aae e2
 refine wd ?_
 refine M5 (hT 10 _ L5 om) λv10 Fh e10 l10 Arw q10=>?_
 obtain ⟨k10,rfl,k11,k12⟩:=q10
 simp only [C9] at l10 Arw
 refine wd ?_
 have A34:TG (h.nx+1) vl hB Fh:=L5
 have k8:Fh.m.get h2.nx=.cells (Ze ⟨an,ap,am,acv,acs⟩) 73 .exact:=(Arw h2.nx om om).trans (A2 ..)
 refine M5 (hT 5 _ L5 om) λD5 Mt e15 l15 Aik q15=>?_
 obtain ⟨k15,rfl,k16,k17⟩:=q15
 have Aq5:R0 1 (λs:List Nat=>[AV.str s]) ((Ab Fh).new (.cells [.str [50],.str [51,47,50],.str [49,49,47,49,48],.str [51],.str [49,48,49,47,49,48,48]] 24 .exact)) (.sl Fh.nx 0 5 5 1 true) [[50],[51,47,50],[49,49,47,49,48],[51],[49,48,49,47,49,48,48]]:=Sl.lit (h:=Ab Fh) (Bf _) rfl rfl
 have AeA:=Sl.tg Aq5 ((A34.nl.new _).at B6) (λb off len cap z ex hv h0=>by cases hv;omega) e15
 have X4:((k15.toNat:Nat):Int)=k15:=Int.toNat_of_nonneg k16
 obtain ⟨fs,hn⟩:∃n,[[50],[51,47,50],[49,49,47,49,48],[51],[49,48,49,47,49,48,48]][k15.toNat]?=some n:=⟨_,List.getElem?_eq_getElem (by simp;omega)⟩
 obtain ⟨b5,o5,el⟩:=R0.elem (f:=λs:List Nat=>[AV.str s]) (s:=1) (λ_=>rfl) AeA hn
 obtain ⟨_,_,_,hv5⟩:=Acg AeA (by simp;omega) el
 obtain rfl:Fh.nx=b5:=by cases hv5;rfl
 have x3:=el.ia
 rw [X4] at x3
 have x4:=el.part 0 _ rfl
 rw [Nat.add_zero] at x4
 have hF5:fs∈Sw:=List.mem_of_getElem? hn
 have c5:B5 (Mt.m.get Fh.nx)=none:=by
  simp only [C9] at Aik
  rw [Aik Fh.nx om om]
  exact congrArg B5 (Bf (h:=Ab Fh) _)
 clear el Aq5 AeA hn hv5
 simp only [C9] at l15 Aik
 refine wd ?_
 refine M5 (hT 12 _ L5 om) λHt R1 e18 l18 Arx q18=>?_
 obtain ⟨k18,rfl,k19,k20⟩:=q18
 simp only [C9] at l18 Arx
 refine wd ?_
 refine Pu (h.nx+1) h2.nx ?_ λLz Wp=>?_
 . simp only [List.forall_mem_cons,List.not_mem_nil,false_imp_iff,implies_true,and_true]
   repeat' (refine And.intro ?_ ?_)
   all_goals first|(left;simp;done)|(left;rfl)|(refine .inr ⟨λx hx=>?_,?_⟩;(focus first|exact .inl (TG.wrote (by assumption) x hx)|(refine .inr ?_;have hz:=(D4 _ _ _ hx).1;simp at hz;omega));(repeat' (refine And.intro ?_ ?_));all_goals first|(exact Ar ..)|(refine Ax _ _ _ _ _ _ _ _ _ _ _ _ ?_;decide)|exact Ci ..|exact Dk (tk:=h.nx+1) (TG.wrote (by assumption)) Ce (.inl rfl)|exact Dk (tk:=h.nx+1) (TG.wrote (by assumption)) Ce (.inr ⟨_,rfl,by omega,congrArg B5 k8⟩)|exact Dk (tk:=h.nx+1) (TG.wrote (by assumption)) Ce (.inr ⟨_,rfl,by omega,c5⟩))
 . clear A34
   generalize hE:Be Lz _=hz
   have tz:TG (h.nx+1) vl h2 hz:=by rw [<- hE];refine TG.reL ?_ ?_ Wp<;>exact L5
   have gq:hz.m.get R1.nx=.cells [.int .i64 (1+k10),.Bv,.int .i64 0,.int .i64 0,.int .i64 0,.int .i64 0,.str [],.int .i64 0,.Bv,.int .i64 0,.bool false,.str an,.int .i64 0,.str [],.str [],.str [],.int .i64 0,.Bv,.str fs,.int .i64 (1+k18)] 26 .exact:=by
    rw [<- hE];exact A2 ..
   have g8:hz.m.get h2.nx=.cells (Ze ⟨an,ap,am,acv,acs⟩) 73 .exact:=by
    rw [<- hE]
    show (H.put _ _ _).m.get _=_
    rw [Aq _ _ _ om]
    show (H.new _ _).m.get _=_
    rw [Cq (h:=Ab R1) _ _ (by show h2.nx≠R1.nx;omega)]
    show R1.m.get _=_
    rw [Arx h2.nx om om]
    show Mt.m.get _=_
    rw [Aik h2.nx om om]
    show (H.new _ _).m.get _=_
    rw [Cq (h:=Ab Fh) _ _ (by show h2.nx≠Fh.nx;omega)]
    exact k8
   have xz:hz.nx=R1.nx+1:=by rw [<- hE];rfl
   have tB:=t2.trans tz
   have gt:h2.nx<R1.nx:=by omega
   generalize R1.nx=bq at *
   generalize hb8:h2.nx=b8 at *
   clear hE Wp Arx Aik Arw e10 e15 e18 x3 x4 c5 k8 x1 x2 u2
   have tz0:TG (h.nx+1) vl hz hz:=TG.refl (tB.at B6)
   cases ap
   . (repeat' (first|refine wk ?_|((with_reducible apply M5);exact hT _ _ L5 om;intro vv hh ee E8 Bu qq;(try simp only [C9] at E8 Bu);obtain ⟨jj,rfl,j0,j1⟩:=qq)|(refine zqq ?_ ?_<;>intro hc<;>(try (exfalso;omega)))|fail))
     . have te:TG (h.nx+1) vl hz hh:=by rename_i hh0 e0 _ _ _ _ _;exact TG.trans e0 ee
       have ge:hh.m.get b8=.cells (Ze ⟨an,false,am,acv,acs⟩) 73 .exact:=N4
       refine (show ∀(hy:H) (q':Qr) (bq b8:Nat) (f:L2),_ from Cg) _ ⟨_,[],_,_,_,_,_,_,[],_,_,_,_,_,_,_,_,[],_,_⟩ bq b8 _ ((tz.trans te).Aiq bq _ om) om (show bq<hh.nx by omega) (A2 ..) ⟨rfl,rfl,rfl,rfl,rfl,rfl,rfl,rfl,rfl⟩ rfl rfl ⟨rfl,rfl,rfl,rfl⟩ ⟨by show 1<=1+k10;omega,by show 1+k10<=10;omega⟩ hF5 ⟨by show 1<=1+k18;omega,by show 1+k18<=12;omega⟩ (.inr ⟨rfl,by show (1:Int)<=1+_;omega,by show 1+_<=(4:Int);omega⟩) ?_ (show b8<hh.nx by omega) (Nat.le_refl _) om
       exact (Aq _ _ _ om).trans ge
     . have te:TG (h.nx+1) vl hz hh:=L5
       have ge:hh.m.get b8=.cells (Ze ⟨an,false,am,acv,acs⟩) 73 .exact:=N4
       exact (show ∀(hy:H) (q':Qr) (bq b8:Nat) (f:L2),_ from Cg) hh ⟨_,[],_,_,_,_,_,_,[],_,_,_,_,_,_,_,_,[],_,_⟩ bq b8 _ (tz.trans te) om om ((Bu bq om om).trans gq) ⟨rfl,rfl,rfl,rfl,rfl,rfl,rfl,rfl,rfl⟩ rfl rfl ⟨rfl,rfl,rfl,rfl⟩ ⟨by show 1<=1+k10;omega,by show 1+k10<=10;omega⟩ hF5 ⟨by show 1<=1+k18;omega,by show 1+k18<=12;omega⟩ (.inl rfl) ge om (Nat.le_refl _) om
   . (repeat' (first|refine wk ?_|((with_reducible apply M5);exact hT _ _ L5 om;intro vv hh ee E8 Bu qq;(try simp only [C9] at E8 Bu);obtain ⟨jj,rfl,j0,j1⟩:=qq)))
     exact (show ∀(hy:H) (q':Qr) (bq b8:Nat) (f:L2),_ from Cg) hz ⟨_,[],_,_,_,_,_,_,[],_,_,_,_,_,_,_,_,[],_,_⟩ bq b8 _ tz om om gq ⟨rfl,rfl,rfl,rfl,rfl,rfl,rfl,rfl,rfl⟩ rfl rfl ⟨rfl,rfl,rfl,rfl⟩ ⟨by show 1<=1+k10;omega,by show 1+k10<=10;omega⟩ hF5 ⟨by show 1<=1+k18;omega,by show 1+k18<=12;omega⟩ (.inl rfl) g8 om (Nat.le_refl _) om
end Go.Proofs
