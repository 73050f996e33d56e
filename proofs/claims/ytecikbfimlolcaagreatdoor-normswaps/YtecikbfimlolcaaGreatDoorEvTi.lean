/- Queries that numbers select: Query, the other table. -/
import Derived.Test.YtecikbfimlolcaaGreatDoorEvTh
set_option maxRecDepth 100000
set_option linter.unusedSimpArgs false
set_option linter.unusedVariables false
noncomputable section
namespace Go.Proofs
open Go Go.Ev Go.Nm
attribute [local irreducible] Aa Al Af Ad
variable (ctx:Ac) (N:Nat)
theorem ScR.gr {tk:Nat} {h h1:H} {s:Sc} (hc:ScR tk h s) (hl:tk<=h.nx) (e:Sx.Ai h h1):ScR tk h1 s:=⟨hc.nn,hc.ne,hc.Mu,hc.A1.By e.keeps,hc.one,hc.cell,λb off len cap z ex hv h0=>by
 obtain ⟨q1,q2⟩:=hc.cz b off len cap z ex hv h0
 refine ⟨q1,λk hk=>q2 k ?_⟩
 rw [<- hk,e.Cf b (by omega)]⟩
theorem Hu.tg2 {tk k:Nat} {h h1:H} {v vl:AV} {l:List Cl} (hk:Hu k h v l) (hc:Hu tk h v l) (ht:Sx.H8 h tk vl) (e:Sx.TG tk vl h h1):Hu k h1 v l:=
 ⟨Sx.Sl.tg hc.sl ht hc.av e,hk.av,λc hh=>⟨(hk.ok c hh).Mu,Sx.Sl.tg (hc.ok c hh).words ht (hc.ok c hh).av e,(hk.ok c hh).av,(hk.ok c hh).one,(hk.ok c hh).cell⟩⟩
theorem Hu.tq3 {tk bq k:Nat} {h h1:H} {v vl:AV} {l:List Cl} (hk:Hu k h v l) (hc:Hu tk h v l) (hb:Hu bq h v l) (ht:Sx.H8 h tk vl) (hq:Vu 20 (h.m.get bq)=true) (hn:bq≠tk) (e:TQ tk vl bq h h1):Hu k h1 v l:=
 ⟨Sl.tq hc.sl ht hc.av hb.av hq hn e,hk.av,λc hh=>⟨(hk.ok c hh).Mu,Sl.tq (hc.ok c hh).words ht (hc.ok c hh).av (hb.ok c hh).av hq hn e,(hk.ok c hh).av,(hk.ok c hh).one,(hk.ok c hh).cell⟩⟩
structure SIn (tk:Nat) (vl:AV) (L:List Int) (sv:AV) (ss:List Sc) (lo:Nat) (h:H):Prop where
 hi:H9 tk vl L h
 lt:lo<=tk
 av:∀k,lo<=k->Sx.Av k vl
 all:∀k,lo<=k->W9 k h sv ss
 cz:∀s∈ss,∀b off len cap z ex,s.cv=.sl b off len cap z ex->0<len->b<lo/\∀k,B5 (h.m.get b)=some k->k<lo
theorem SIn.tg {tk lo:Nat} {vl sv:AV} {L:List Int} {ss:List Sc} {h h1:H} (S:SIn tk vl L sv ss lo h) (e:Sx.TG tk vl h h1):SIn tk vl L sv ss lo h1:=by
 have ht:=S.hi.at'
 have hcz:∀s∈ss,∀b off len cap z ex,s.cv=.sl b off len cap z ex->0<len->b<lo/\∀k,B5 (h1.m.get b)=some k->k<lo:=by
  intro s hs b off len cap z ex hv h0
  obtain ⟨q1,q2⟩:=S.cz s hs b off len cap z ex hv h0
  have:=S.lt
  have:=ht.lt
  refine ⟨q1,λk hk=>q2 k ?_⟩
  rw [<- hk,e.Cf b (by omega) (by omega)]
 refine ⟨S.hi.tg e,S.lt,S.av,λk hk=>?_,hcz⟩
 have a:=S.all k hk
 have c:=S.all tk S.lt
 refine ⟨a.ne,a.Mu,Sx.Sl.tg a.sl ht c.av e,a.av,λs hs=>?_⟩
 have ax:=a.ok s hs
 have cs:=c.ok s hs
 refine ⟨ax.nn,ax.ne,ax.Mu,ax.A1.tg2 cs.A1 ht e,ax.one,ax.cell,λb off len cap z ex hv h0=>?_⟩
 obtain ⟨q1,q2⟩:=hcz s hs b off len cap z ex hv h0
 exact ⟨by omega,λk hk=>by have:=q2 k hk;omega⟩
theorem SIn.gr {tk lo:Nat} {vl sv:AV} {L:List Int} {ss:List Sc} {h h1:H} (S:SIn tk vl L sv ss lo h) (e:Sx.Ai h h1):SIn tk vl L sv ss lo h1:=S.tg ((Sx.TG.refl S.hi.at').gr e)
theorem SIn.tq {tk lo bq:Nat} {vl sv:AV} {L:List Int} {ss:List Sc} {h h1:H} (S:SIn tk vl L sv ss lo h) (hb:lo<=bq) (hq:Vu 20 (h.m.get bq)=true) (hn:bq≠tk) (e:TQ tk vl bq h h1):SIn tk vl L sv ss lo h1:=by
 have ht:=S.hi.at'
 have hcz:∀s∈ss,∀b off len cap z ex,s.cv=.sl b off len cap z ex->0<len->b<lo/\∀k,B5 (h1.m.get b)=some k->k<lo:=by
  intro s hs b off len cap z ex hv h0
  obtain ⟨q1,q2⟩:=S.cz s hs b off len cap z ex hv h0
  have:=S.lt
  have:=ht.lt
  refine ⟨q1,λk hk=>q2 k ?_⟩
  rw [<- hk,e.Cf b (by omega) (by omega) (by omega)]
 refine ⟨S.hi.tq (S.av bq hb) hq hn e,S.lt,S.av,λk hk=>?_,hcz⟩
 have a:=S.all k hk
 have c:=S.all tk S.lt
 have d:=S.all bq hb
 refine ⟨a.ne,a.Mu,Sl.tq a.sl ht c.av d.av hq hn e,a.av,λs hs=>?_⟩
 have ax:=a.ok s hs
 refine ⟨ax.nn,ax.ne,ax.Mu,ax.A1.tq3 (c.ok s hs).A1 (d.ok s hs).A1 ht hq hn e,ax.one,ax.cell,λb off len cap z ex hv h0=>?_⟩
 obtain ⟨q1,q2⟩:=hcz s hs b off len cap z ex hv h0
 exact ⟨by omega,λk hk=>by have:=q2 k hk;omega⟩
theorem SIn.q {tk lo bq:Nat} {vl sv:AV} {L:List Int} {ss:List Sc} {h:H} (S:SIn tk vl L sv ss lo h) (hb:lo<=bq) (hq:Vu 20 (h.m.get bq)=true) (hn:bq≠tk) (hl:bq<h.nx):QIn tk vl L bq h:=⟨S.hi,S.av bq hb,hn,hl,hq⟩
theorem TQ.ApZ {tk bq:Nat} {vl:AV} {h0 h h1:H} (e:TQ tk vl bq h h1) (g:Sx.Ai h0 h) (ht:h0.nx<=tk) (hb:h0.nx<=bq):Sx.Ai h0 h1:=by
 obtain ⟨o,ho,m,hm,e⟩:=e
 exact ((g.put bq o hb).put tk _ ht).trans e
theorem Sb {tk:Nat} {vl:AV} {h0 h h1:H} (e:Sx.TG tk vl h h1) (g:Sx.Ai h0 h) (ht:h0.nx<=tk):Sx.Ai h0 h1:=by
 obtain ⟨m,hm,e⟩:=e
 exact (g.put tk _ ht).trans e
theorem AvI {ss:List Sc} {l:List Cl} {k:Nat} {cv sv:AV} {h h1:H} (hm:∀c∈l,∃s∈ss,c∈s.A1) (ho:Sx.Fm 4 h.nx 96 h1 cv l.length (l.flatMap Hx)) (hs:W9 k h sv ss) (hk:k<h.nx) (g:Sx.Ai h h1):Hu k h1 cv l:=by
 refine ⟨ho.sl,λb off len cap z ex hv h0=>?_,λc hc=>?_⟩
 . have:=W7.own ho b off len cap z ex hv h0
   omega
 . obtain ⟨s,h1,h2⟩:=hm c hc
   exact ((hs.ok s h1).A1.ok c h2).By g.keeps
def AgH (r:AV) (h1:H):Prop:=∃(q:Qr) (vc vo vm:AV),r=.agg (qc q vc vo vm)/\QV h1 q vc vo vm/\(q.code=[]\/∃t,Ty false t/\size t<=Sd 3/\q.code=t.nodes)/\(q.E9=[]\/∃t,Ty true t/\size t<=Sd 3/\q.E9=t.nodes)/\q.ord.length<=4
def Ag3 (lo:Nat) (h:H) (vm:AV) (l:List Nd):Prop:=(l=[]/\vm=.Bv)\/∃t,Ty true t/\size t<=Sd 3/\l=t.nodes/\Oo lo h vm t.nodes
theorem A3a {h0 h:H} (g:Sx.Ai h0 h) (bq rb lo:Nat) (q:Qr) (vc vo vm:AV) (hg:h.m.get bq=.cells (qc q vc vo vm) 26 .exact) (hr:h.m.get rb=.cells zq 26 .exact) (hr0:h0.nx<=rb) (hrl:rb<lo) (Hr:rb≠bq) (hc:AoM lo h vc q.code) (hm:Ag3 lo h vm q.E9) (hl:q.ord.length<=4) (ho:Sx.Fm 2 lo 33 h vo q.ord.length (q.ord.flatMap Zd)):
 Sx.Ah h0 AgH (Aa (Ae (some (some 20)) (.ptr bq 0) h) λv12 Gd=>Aa (A4 20 (.ptr rb 0) v12 Gd) λE0 It=>Vk [.c (some (some 20)) (.ptr rb 0)] It):=by
 obtain ⟨o1,o2⟩:=B2 ho.sl
 have W0:Ge vc=true/\cellsOf vc=some [vc]:=by
  rcases hc with ⟨_,rfl⟩|⟨t,_,_,_,nf⟩
  . exact ⟨rfl,rfl⟩
  . exact nf.one
 have m12:Ge vm=true/\cellsOf vm=some [vm]:=by
  rcases hm with ⟨_,rfl⟩|⟨t,_,_,_,nf⟩
  . exact ⟨rfl,rfl⟩
  . exact nf.one
 obtain ⟨c1,c2⟩:=W0
 obtain ⟨m1,m2⟩:=m12
 have hic:Vu (qc q vc vo vm).length (h.m.get rb)=true:=by rw [hr];rfl
 repeat' (first|with_reducible (first|apply A7|apply A8|apply A9|apply Ba)|(with_reducible (first|apply Cy|apply Cz|apply C0|apply C1);(conv=>lhs;simp (disch:=first|exact dA|fail) [lw, *,hg,hr]);with_reducible (first|apply A7|apply A8|apply A9|apply Ba|apply Cu|(refine Cv (by simp) ?_)|(apply Cw<;>intro hc<;>(try simp only [Bt] at hc)<;>(try (exfalso;omega)))))|(with_reducible (first|apply C2|apply C3|apply C4|apply C5)<;>intro hc<;>(try simp only [Bt] at hc)<;>(try (exfalso;omega))))
 refine zr Ex ⟨q,vc,vo,vm,rfl,⟨?_,?_,?_⟩,?_,?_,hl⟩
 . rcases hc with ⟨h1,rfl⟩|⟨t,_,_,h1,nf⟩
   . rw [h1];exact .inl ⟨rfl,rfl,rfl⟩
   . rw [h1];exact (nf.To hrl hic).sl
 . exact (Fm.To ho hrl hic).sl
 . rcases hm with ⟨h1,rfl⟩|⟨t,_,_,h1,nf⟩
   . rw [h1];exact .inl ⟨rfl,rfl,rfl⟩
   . rw [h1];exact (nf.To hrl hic).sl
 . rcases hc with ⟨h1,rfl⟩|⟨t,b1,b2,h1,nf⟩
   . exact .inl h1
   . exact .inr ⟨t,b1,b2,h1⟩
 . rcases hm with ⟨h1,rfl⟩|⟨t,b1,b2,h1,nf⟩
   . exact .inl h1
   . exact .inr ⟨t,b1,b2,h1⟩
theorem AoM.Y5 {lo Z6:Nat} {h:H} {v:AV} {l:List Nd} (hc:AoM lo h v l) (hl:Z6<=lo):AoM Z6 h v l:=by
 rcases hc with h1|⟨t,a1,a2,a3,a4⟩
 . exact .inl h1
 . exact .inr ⟨t,a1,a2,a3,a4.Y5 hl⟩
theorem Ag3.tq {lo tk bq:Nat} {vl v:AV} {h h1:H} {m:List Nd} (hv:Ag3 lo h v m) (ht:Sx.H8 h tk vl) (hq:Vu 20 (h.m.get bq)=true) (hn:bq≠tk) (h2:tk<lo) (h3:bq<lo) (e:TQ tk vl bq h h1):Ag3 lo h1 v m:=by
 rcases hv with h1|⟨t,a1,a2,a3,a4⟩
 . exact .inl h1
 . exact .inr ⟨t,a1,a2,a3,a4.tq ht hq hn h2 h3 e⟩
theorem Ag3.Y5 {lo Z6:Nat} {h:H} {v:AV} {l:List Nd} (hc:Ag3 lo h v l) (hl:Z6<=lo):Ag3 Z6 h v l:=by
 rcases hc with h1|⟨t,a1,a2,a3,a4⟩
 . exact .inl h1
 . exact .inr ⟨t,a1,a2,a3,a4.Y5 hl⟩
theorem Asm (h42:R42 ctx) {h0 h:H} (tk:Nat) (vl:AV) (L:List Int) (bq rb lo:Nat) (cv:AV) (A1:List Cl) (K:KIn tk vl L bq h cv A1) (q:Qr) (vm:AV) (hg:h.m.get bq=.cells (qc q .Bv .Bv vm) 26 .exact) (hqc:q.code=[]) (hqo:q.ord=[]) (g0:Sx.Ai h0 h) (ht0:h0.nx<=tk) (Sz:h0.nx<=bq) (hr:h.m.get rb=.cells zq 26 .exact) (hr0:h0.nx<=rb) (hrl:rb<lo) (Hr:rb≠bq) (hnr:rb≠tk) (Kf:lo<=h.nx) (B6:tk<lo) (hlb:bq<lo) (hm:Ag3 lo h vm q.E9):
 Sx.Ah h0 AgH (Aa (ctx.call 42 [.ptr tk 0,.ptr bq 0,cv] h) λv11 Kc=>Aa (Ae (some (some 20)) (.ptr bq 0) Kc) λv12 Gd=>Aa (A4 20 (.ptr rb 0) v12 Gd) λE0 It=>Vk [.c (some (some 20)) (.ptr rb 0)] It):=by
 obtain ⟨v,h1,e1,_,tq,q',vc,vo,p1,p2,p3,p4,p5⟩:=h42 tk vl L bq h cv A1 q vm K hg hqc hqo
 rw [e1]
 refine Sx.Wb ?_
 refine A3a (tq.ApZ g0 ht0 Sz) bq rb lo q' vc vo vm p1 ?_ hr0 hrl Hr (p3.Y5 Kf) (p2 ▸ hm.tq K.Q.hi.at' K.Q.hq K.Q.hn B6 hlb tq) p4 (Yp p5 Kf)
 exact (tq.Cf rb (by omega) hnr Hr).trans hr
set_option maxHeartbeats 2000000 in
theorem A9t (Fg:R38 ctx) (Va:R40 ctx) (We:R41 ctx 3) (h42:R42 ctx) {h0:H} (tk:Nat) (vl sv:AV) (L:List Int) (ss:List Sc) (bq rb:Nat) (h:H) (g0:Sx.Ai h0 h) (S:SIn tk vl L sv ss h0.nx h) (q:Qr) (hg:h.m.get bq=.cells (qc q .Bv .Bv .Bv) 26 .exact) (Sz:h0.nx<=bq) (G8:bq<h.nx) (hn:bq≠tk) (hr:h.m.get rb=.cells zq 26 .exact) (hr0:h0.nx<=rb) (hrl:rb<h.nx) (Hr:rb≠bq) (hnr:rb≠tk) (hqc:q.code=[]) (hqo:q.ord=[]) (hqm:q.E9=[]) (hnm:∃s∈ss,s.name=q.Uw) (f0:L2):
 Sx.Ah h0 AgH (Ag7 ctx N sv (.ptr rb 0) (.ptr tk 0) (.ptr bq 0) f0 h):=by
 have B6:=S.hi.at'.lt
 have htl:=S.lt
 have ic:Vu 20 (h.m.get bq)=true:=by rw [hg];rfl
 have t0:TQ tk vl bq h h:=TQ.refl S.hi.at' ic hn
 have hT:=(S.q Sz ic hn G8).Adl ctx Fg
 obtain ⟨c0,code,c2,c3,c4,c5,s6,c7,ord,c9,Wz,Uw,W0,z13,z14,z15,z16,E9,s18,c19⟩:=q
 simp only at hqc hqo hqm hnm
 subst hqc
 subst hqo
 subst hqm
 rw [AwI]
 repeat' (first|with_reducible (first|apply A7|apply A8|apply A9|apply Ba)|(with_reducible (first|apply Cy|apply Cz|apply C0|apply C1);(conv=>lhs;simp (disch:=first|exact dA|fail) [lw, *,hg]);with_reducible (first|apply A7|apply A8|apply A9|apply Ba|apply Cu|(refine Cv (by simp) ?_)|(apply Cw<;>intro hc<;>(try simp only [Bt] at hc)<;>(try (exfalso;omega)))))|(with_reducible (first|apply C2|apply C3|apply C4|apply C5)<;>intro hc<;>(try simp only [Bt] at hc)<;>(try (exfalso;omega))))
 refine zc1 (Va tk ss sv Uw z13 h (S.all tk htl) hnm) λcv h1 e1 l1 Aad q1=>?_
 obtain ⟨l,a1,a2,a4,a3⟩:=q1
 have ct1:=AvI a3 a4 (S.all tk htl) B6 e1
 have cb1:=AvI a3 a4 (S.all bq Sz) G8 e1
 have t1:TQ tk vl bq h h1:=t0.gr e1
 have g1:=(Aad bq G8).trans hg
 have r1:=(Aad rb hrl).trans hr
 have S1:=S.gr e1
 have ic1:=t1.isc hn G8
 have K1:KIn tk vl L bq h1 cv l:=⟨S1.q Sz ic1 hn (by omega),ct1,cb1,a1,a2⟩
 refine Sx.M5 (hT 2 h1 t1 (by omega)) λv2 h2 e2 l2 Aae q2=>?_
 obtain ⟨j,rfl,j0,j1⟩:=q2
 have t2:TQ tk vl bq h1 h2:=(TQ.refl S1.hi.at' ic1 hn).tg e2
 have K2:=K1.tq t2
 have g2:=(Aae bq (by omega) hn).trans g1
 have r2:=(Aae rb (by omega) hnr).trans r1
 have g00:Sx.Ai h0 h2:=Sb e2 (g0.trans e1) htl
 repeat' (first|with_reducible (first|apply A7|apply A8|apply A9|apply Ba)|(with_reducible (first|apply Cy|apply Cz|apply C0|apply C1);(conv=>lhs;simp (disch:=first|exact dA|fail) [lw, *]);with_reducible (first|apply A7|apply A8|apply A9|apply Ba|apply Cu|(refine Cv (by simp) ?_)|(apply Cw<;>intro hc<;>(try simp only [Bt] at hc)<;>(try (exfalso;omega)))))|(with_reducible (first|apply C2|apply C3|apply C4|apply C5)<;>intro hc<;>(try simp only [Bt] at hc)<;>(try (exfalso;omega))))
 . refine Sx.M5 (We tk vl L cv l 3 h2 rfl K2.Q.hi K2.c1 K2.ne K2.Mu) λv3 h3 e3 l3 Ary q3=>?_
   obtain ⟨t,y1,y2,nf⟩:=q3
   obtain ⟨n1,n2⟩:=nf.one
   have g3:=(Ary bq (by omega) hn).trans g2
   have r3:=(Ary rb (by omega) hnr).trans r2
   have t3:TQ tk vl bq h2 h3:=(TQ.refl K2.Q.hi.at' K2.Q.hq hn).tg e3
   repeat' (first|with_reducible (first|apply A7|apply A8|apply A9|apply Ba)|(with_reducible (first|apply Cy|apply Cz|apply C0|apply C1);(conv=>lhs;simp (disch:=first|exact dA|fail) [lw, *,g3]);with_reducible (first|apply A7|apply A8|apply A9|apply Ba|apply Cu|(refine Cv (by simp) ?_)|(apply Cw<;>intro hc<;>(try simp only [Bt] at hc)<;>(try (exfalso;omega)))))|(with_reducible (first|apply C2|apply C3|apply C4|apply C5)<;>intro hc<;>(try simp only [Bt] at hc)<;>(try (exfalso;omega))))
   have t4:TQ tk vl bq h2 (h3.put bq (.cells [.int .i64 c0,.Bv,.int .i64 c2,.int .i64 c3,.int .i64 c4,.int .i64 c5,.str s6,.int .i64 c7,.Bv,.int .i64 c9,.bool Wz,.str Uw,.int .i64 W0,.str z13,.str z14,.str z15,.int .i64 z16,v3,.str s18,.int .i64 c19] 26 .exact)):=t3.put _ rfl hn
   refine Asm ctx h42 tk vl L bq rb h2.nx cv l (K2.tq t4) ⟨c0,[],c2,c3,c4,c5,s6,c7,[],c9,Wz,Uw,W0,z13,z14,z15,z16,t.nodes,s18,c19⟩ v3 (Sx.A2 ..) rfl rfl (t4.ApZ g00 htl Sz) htl Sz ?_ hr0 (by omega) Hr hnr l3 (by omega) (by omega) ?_
   . exact (Sx.Aq _ _ _ Hr).trans r3
   . exact .inr ⟨t,y1,y2,rfl,nf.To (by omega) (by rw [g3];rfl)⟩
 . exact Asm ctx h42 tk vl L bq rb h2.nx cv l K2 ⟨c0,[],c2,c3,c4,c5,s6,c7,[],c9,Wz,Uw,W0,z13,z14,z15,z16,[],s18,c19⟩ .Bv g2 rfl rfl g00 htl Sz r2 hr0 (by omega) Hr hnr (Nat.le_refl _) (by omega) (by omega) (.inl ⟨rfl,rfl⟩)
theorem Ai6 {tk:Nat} {h:H} {sv:AV} {ss:List Sc} {j:Int} (hs:W9 tk h sv ss) (j0:0<=j) (j1:j<(ss.length:Int)):∃s b o,s∈ss/\(∀hh,Gc 4 sv (.int .i64 j) hh=.ok (.ptr b o) hh)/\∀hh,Sx.Bi h hh->Ae (some (some 4)) (.ptr b o) hh=.ok (.agg (Ze s)) hh:=by
 have X4:((j.toNat:Nat):Int)=j:=Int.toNat_of_nonneg j0
 obtain ⟨s,hsi⟩:∃s,ss[j.toNat]?=some s:=⟨_,List.getElem?_eq_getElem (by omega)⟩
 obtain ⟨b,o,el⟩:=Sx.R0.elem (f:=Ze) (s:=4) (λ_=>rfl) hs.sl hsi
 have x1:=el.ia
 rw [X4] at x1
 exact ⟨s,b,o,List.mem_of_getElem? hsi,x1,el.all⟩
set_option maxHeartbeats 2000000 in
theorem A9s (Fg:R38 ctx) (U9:R39 ctx) (Va:R40 ctx) (We:R41 ctx 3) (h42:R42 ctx) {h0:H} (tk:Nat) (vl sv:AV) (L:List Int) (ss:List Sc) (bq rb b8:Nat) (h:H) (g0:Sx.Ai h0 h) (S:SIn tk vl L sv ss h0.nx h) (q:Qr) (hg:h.m.get bq=.cells (qc q .Bv .Bv .Bv) 26 .exact) (Sz:h0.nx<=bq) (G8:bq<h.nx) (hn:bq≠tk) (hr:h.m.get rb=.cells zq 26 .exact) (hr0:h0.nx<=rb) (hrl:rb<h.nx) (Hr:rb≠bq) (hnr:rb≠tk) (hqc:q.code=[]) (hqo:q.ord=[]) (hqm:q.E9=[]) (a:Sc) (ha:a∈ss) (hnm:a.name=q.Uw) (g8:h.m.get b8=.cells (Ze a) 73 .exact) (l8:b8<h.nx) (n8:b8≠tk) (m8:b8≠bq) (f0:L2):
 Sx.Ah h0 AgH (Ag6 ctx N sv (.ptr rb 0) (.ptr tk 0) (.ptr b8 0) (.ptr bq 0) f0 h):=by
 have B6:=S.hi.at'.lt
 have htl:=S.lt
 have ic:Vu 20 (h.m.get bq)=true:=by rw [hg];rfl
 have t0:TQ tk vl bq h h:=TQ.refl S.hi.at' ic hn
 have hT:=(S.q Sz ic hn G8).Adl ctx Fg
 have hlen:∀hh,Fo sv hh=.ok (.int .i64 (ss.length:Int)) hh:=λ_=>(S.all tk htl).sl.Gs
 have hss:=(S.all tk htl).Mu
 have hsp:0<ss.length:=List.length_pos_iff.2 (S.all tk htl).ne
 have Cg:∀(hy:H) (q':Qr) (f:L2),TQ tk vl bq h hy->hy.m.get bq=.cells (qc q' .Bv .Bv .Bv) 26 .exact->q'.code=[]->q'.ord=[]->q'.E9=[]->q'.Uw=q.Uw->Sx.Ah h0 AgH (Ag7 ctx N sv (.ptr rb 0) (.ptr tk 0) (.ptr bq 0) f hy):=by
  intro hy q' f ty gy z1 z2 z3 z4
  have hl:=ty.lo
  exact A9t ctx N Fg Va We h42 tk vl sv L ss bq rb hy (ty.ApZ g0 htl Sz) (S.tq Sz ic hn ty) q' gy Sz (by omega) hn ((ty.Cf rb hrl hnr Hr).trans hr) hr0 (by omega) Hr hnr z1 z2 z3 ⟨a,ha,hnm.trans z4.symm⟩ f
 replace Cg:=(show F5 _ from Cg)
 rw [AwH]
 refine Sx.Ey (hlen _) ?_
 refine Sx.M5 (hT _ h t0 (by omega)) λv2 h2 e2 l2 Aae q2=>?_
 obtain ⟨j,rfl,j0,j1⟩:=q2
 have S2:=S.tg e2
 obtain ⟨b,b',o,hb,x1,x2⟩:=Ai6 (S2.all tk htl) j0 (by omega)
 have t2:TQ tk vl bq h h2:=t0.tg e2
 have g2:=(Aae bq (by omega) hn).trans hg
 have k2:=(Aae b8 (by omega) n8).trans g8
 have w1:=((S2.all tk htl).ok b hb).one
 have w2:=((S2.all tk htl).ok b hb).cell
 have w3:=((S2.all tk htl).ok a ha).one
 have w4:=((S2.all tk htl).ok a ha).cell
 obtain ⟨bn,bp,bm,bcv,bcs⟩:=b
 obtain ⟨an,ap,am,acv,acs⟩:=a
 simp only at w1 w2 w3 w4 hnm
 subst hnm
 have hJ:∀hx,TQ tk vl bq h hx->hx.m.get bq=.cells (qc q .Bv .Bv .Bv) 26 .exact->Sx.Ah Sx.H0 (λ_ h1=>TQ tk vl bq hx h1/\JQ q .Bv .Bv .Bv bq h1) (ctx.call 39 [.ptr tk 0,.ptr bq 0,.agg (Ze ⟨q.Uw,ap,am,acv,acs⟩),.agg (Ze ⟨bn,bp,bm,bcv,bcs⟩)] hx):=by
  intro hx ex gx
  have Sx':=S.tq Sz ic hn ex
  have X6:=ex.lo
  exact U9 tk vl L bq hx q .Bv .Bv .Bv _ _ ⟨Sx'.hi,Sx'.av bq Sz,hn,by omega,⟨rfl,rfl⟩,⟨rfl,rfl⟩,⟨rfl,rfl⟩,ex.isc hn G8,(Sx'.all tk htl).ok _ ha,(Sx'.all bq Sz).ok _ ha,(Sx'.all tk htl).ok _ hb,(Sx'.all bq Sz).ok _ hb⟩ gx
 replace hJ:=(show F5 _ from hJ)
 clear S S2 U9 Va We h42 Fg
 repeat' (first|with_reducible (first|apply A7|apply A8|apply A9|apply Ba)|((with_reducible apply Sx.M5);exact hT _ _ tqA (by omega);intro vv hh ee E8 Bu qq;(try simp only [C9] at E8 Bu);obtain ⟨jj,rfl,j0,j1⟩:=qq)|(with_reducible (first|apply Cy|apply Cz|apply C0|apply C1);(conv=>lhs;simp (disch:=first|exact dA|fail) [lw, *,x1,x2,k2]);with_reducible (first|apply A7|apply A8|apply A9|apply Ba|apply Cu|(refine Cv (by simp) ?_)|(apply Cw<;>intro hc<;>(try simp only [Bt] at hc)<;>(try (exfalso;omega)))))|(with_reducible (first|apply C2|apply C3|apply C4|apply C5)<;>intro hc<;>(try simp only [Bt] at hc)<;>(try (exfalso;omega))))
 . obtain rfl:ap=false:=by assumption
   have th:TQ tk vl bq h hh:=tqA
   have gh:hh.m.get bq=.cells (qc q .Bv .Bv .Bv) 26 .exact:=N4
   obtain ⟨v,h1,e1,_,tq,s13,s14,s15,c16,gq⟩:=(show ∀hx,TQ tk vl bq h hx->hx.m.get bq=.cells (qc q .Bv .Bv .Bv) 26 .exact->_ from hJ) hh th gh
   rw [e1]
   refine Sx.Wb ?_
   exact (show ∀(hy:H) (q':Qr) (f:L2),_ from Cg) h1 _ _ (th.trans tq hn) gq hqc hqo hqm rfl
 . obtain rfl:ap=true:=by assumption
   obtain rfl:bp=true:=by assumption
   have th:TQ tk vl bq h hh:=tqA
   have gh:hh.m.get bq=.cells (qc q .Bv .Bv .Bv) 26 .exact:=N4
   obtain ⟨v,h1,e1,_,tq,s13,s14,s15,c16,gq⟩:=(show ∀hx,TQ tk vl bq h hx->hx.m.get bq=.cells (qc q .Bv .Bv .Bv) 26 .exact->_ from hJ) hh th gh
   rw [e1]
   refine Sx.Wb ?_
   exact (show ∀(hy:H) (q':Qr) (f:L2),_ from Cg) h1 _ _ (th.trans tq hn) gq hqc hqo hqm rfl
 all_goals
  have gh:hh.m.get bq=.cells (qc q .Bv .Bv .Bv) 26 .exact:=N4
  exact (show ∀(hy:H) (q':Qr) (f:L2),_ from Cg) hh q _ tqA gh hqc hqo hqm rfl
end Go.Proofs
