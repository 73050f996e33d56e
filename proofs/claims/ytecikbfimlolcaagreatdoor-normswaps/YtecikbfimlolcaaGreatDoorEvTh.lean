/- Queries that numbers select: kinds, whole. -/
import Derived.Test.YtecikbfimlolcaaGreatDoorEvTg
set_option maxRecDepth 100000
set_option linter.unusedSimpArgs false
set_option linter.unusedVariables false
noncomputable section
namespace Go.Proofs
open Go Go.Ev Go.Nm
attribute [local irreducible] Aa Al Af Ad
variable (ctx:Ac) (N:Nat)
def AoM (lo:Nat) (h:H) (vc:AV) (l:List Nd):Prop:=(l=[]/\vc=.Bv)\/∃t,Ty false t/\size t<=Sd 3/\l=t.nodes/\Oo lo h vc t.nodes
def Afg (bq lo:Nat) (E9:List Nd) (vm:AV) (h1:H):Prop:=∃(q:Qr) (vc vo:AV),h1.m.get bq=.cells (qc q vc vo vm) 26 .exact/\q.E9=E9/\AoM lo h1 vc q.code/\q.ord.length<=4/\Sx.Fm 2 lo 33 h1 vo q.ord.length (q.ord.flatMap Zd)
theorem Afg.mono {bq lo Z6:Nat} {E9:List Nd} {vm:AV} {h1:H} (hk:Afg bq lo E9 vm h1) (hl:Z6<=lo):Afg bq Z6 E9 vm h1:=by
 obtain ⟨q,vc,vo,a1,a2,a3,a4,a5⟩:=hk
 refine ⟨q,vc,vo,a1,a2,?_,a4,Yp a5 hl⟩
 rcases a3 with a3|⟨t,b1,b2,b3,b4⟩
 . exact .inl a3
 . exact .inr ⟨t,b1,b2,b3,b4.Y5 hl⟩
set_option maxHeartbeats 2000000 in
theorem A9v (Fg:R38 ctx) (hN:100<N) (tk:Nat) (vl:AV) (L:List Int) (bq:Nat) (h:H) (K:QIn tk vl L bq h) (cv:AV) (b7:Nat) (c:Cl) (h7:h.m.get b7=.cells (Hx c) 96 .exact) (l7:b7<h.nx) (n7:b7≠tk) (m7:b7≠bq) (vm:AV) (q:Qr) (hg:h.m.get bq=.cells (qc q .Bv .Bv vm) 26 .exact) (hqc:q.code=[]) (hqo:q.ord=[])
 (hO:Sx.D6 tk vl h (Se false (Sd 3) h.nx) (ctx.call 80 [.ptr tk 0,cv,.int .i64 3] h)) (tb:Bool) (f0:L2):
 Sx.Ah Sx.H0 (λ_ h1=>TQ tk vl bq h h1/\Afg bq h.nx q.E9 vm h1) (Aee ctx N (.ptr tk 0) (.ptr bq 0) cv (.ptr b7 0) (.int .i64 q.c0) (.bool tb) f0 h):=by
 have B6:=K.hi.at'.lt
 have G8:=K.lt
 have hn:=K.hn
 have hT:=K.Adl ctx Fg
 have hat:=K.hi.at'
 have hic:=K.hq
 have t0:TQ tk vl bq h h:=TQ.refl hat hic hn
 obtain ⟨c0,code,c2,c3,c4,c5,s6,c7,ord,c9,Wz,Uw,W0,z13,z14,z15,z16,E9,s18,c19⟩:=q
 simp only at hqc hqo
 subst hqc
 subst hqo
 replace hg:h.m.get bq=.cells [.int .i64 c0,.Bv,.int .i64 c2,.int .i64 c3,.int .i64 c4,.int .i64 c5,.str s6,.int .i64 c7,.Bv,.int .i64 c9,.bool Wz,.str Uw,.int .i64 W0,.str z13,.str z14,.str z15,.int .i64 z16,vm,.str s18,.int .i64 c19] 26 .exact:=hg
 rw [AwQ]
 cases tb
 . have S5:=λmany f=>AlP ctx N Fg tk vl L bq h K b7 c h7 l7 n7 m7 .Bv vm [] E9 many f
   replace S5:=(show F5 _ from S5)
   replace K:=(show F5 _ from K)
   repeat' (first|with_reducible (first|apply A7|apply A8|apply A9|apply Ba)|((with_reducible apply Sx.M5);exact hT _ _ tqA (by omega);intro vv hh ee E8 Bu qq;(try simp only [C9] at E8 Bu);obtain ⟨jj,rfl,j0,j1⟩:=qq)|(with_reducible (first|apply Cy|apply Cz|apply C0|apply C1);(conv=>lhs;simp (disch:=first|exact dA|fail) [lw, *,hg]);with_reducible (first|apply A7|apply A8|apply A9|apply Ba|apply Cu|(refine Cv (by simp) ?_)|(apply Cw<;>intro hc<;>(try simp only [Bt] at hc)<;>(try (exfalso;omega)))))|(with_reducible (first|apply C2|apply C3|apply C4|apply C5)<;>intro hc<;>(try simp only [Bt] at hc)<;>(try (exfalso;omega))))
   . exact zr (Sx.Ed _) ⟨tqA,⟨_,[],_,_,_,_,_,_,[],_,_,_,_,_,_,_,_,E9,_,_⟩,.Bv,.Bv,Sx.A2 ..,rfl,.inl ⟨rfl,rfl⟩,by simp,Sx.Fm.nil ..⟩
   . exact zr (Sx.Ed _) ⟨tqA,⟨_,[],_,_,_,_,_,_,[],_,_,_,_,_,_,_,_,E9,_,_⟩,.Bv,.Bv,Sx.A2 ..,rfl,.inl ⟨rfl,rfl⟩,by simp,Sx.Fm.nil ..⟩
   . have tA:TQ tk vl bq h hh:=tqA
     have gA:=(Bu bq (by omega) hn).trans hg
     refine Sx.Ah.mono ((show ∀(many:Int) (f:many<=4),_ from S5) (1+jj) (by omega) (1+jj).toNat 0 N hh _ ⟨c0,[],c2,c3,c4,c5,s6,c7,[],c9,Wz,Uw,W0,z13,z14,z15,z16,E9,s18,c19⟩ .Bv (by omega) (by omega) (by omega) tA gA rfl rfl rfl (Sx.Fm.nil ..)) λv h1 _ q1=>?_
     obtain ⟨p1,q',vo,p2,p3,p4,p5,p6⟩:=q1
     exact ⟨p1,q',.Bv,vo,p2,p4,.inl ⟨p3,rfl⟩,p5,p6⟩
   . exact zr (Sx.Ed _) ⟨tqA,⟨c0,[],_,_,_,_,_,_,[],_,_,_,_,_,_,_,_,E9,_,_⟩,.Bv,.Bv,hg,rfl,.inl ⟨rfl,rfl⟩,by simp,Sx.Fm.nil ..⟩
 . refine Sx.Zx ?_
   refine Sx.M5 hO λv1 h1 e1 l1 Aad q1=>?_
   obtain ⟨t,y1,s1,n1⟩:=q1
   obtain ⟨o1,o2⟩:=n1.one
   have g1:=(Aad bq G8 hn).trans hg
   have t1:TQ tk vl bq h h1:=t0.tg e1
   have A33:=e1.at B6
   have A3Q:=t1.isc hn G8
   have tb:TQ tk vl bq h1 h1:=TQ.refl A33 A3Q hn
   have hJ:=λhx q f0=>A9w ctx N Fg tk vl L bq hx q v1 .Bv vm f0
   have hK:∀hx,TQ tk vl bq h hx->QIn tk vl L bq hx:=λhx e=>K.tq e
   replace hJ:=(show F5 _ from hJ)
   replace hK:=(show F5 _ from hK)
   clear K hO
   repeat' (first|with_reducible (first|apply A7|apply A8|apply A9|apply Ba)|((with_reducible apply Sx.M5);exact hT _ _ tqA (by omega);intro vv hh ee E8 Bu qq;(try simp only [C9] at E8 Bu);obtain ⟨jj,rfl,j0,j1⟩:=qq)|(with_reducible (first|apply Cy|apply Cz|apply C0|apply C1);(conv=>lhs;simp (disch:=first|exact dA|fail) [lw, *,g1]);with_reducible (first|apply A7|apply A8|apply A9|apply Ba|apply Cu|(refine Cv (by simp) ?_)|(apply Cw<;>intro hc<;>(try simp only [Bt] at hc)<;>(try (exfalso;omega)))))|(with_reducible (first|apply C2|apply C3|apply C4|apply C5)<;>intro hc<;>(try simp only [Bt] at hc)<;>(try (exfalso;omega)))|(refine Sx.B8 ?_ ?_;(focus (simp (disch:=first|decide|omega|(simp only [C9];omega)) [Sx.Aw,Sx.Am,Sx.Ar,Sx.Ax, *];done));(try simp (disch:=first|exact Ce|fail) only [Sx.Aw,Sx.Am,Sx.Bx,Sx.Ap,Sx.At,List.nil_append,List.cons_append,Sx.B9,Sx.Dp,Sx.Dn,C9,Sx.Ca, *])))
   refine Acx tk bq h1.nx ?_ λLz hLz=>?_
   . simp only [List.forall_mem_cons,List.not_mem_nil,false_imp_iff,implies_true,and_true]
     repeat' (refine And.intro ?_ ?_)
     all_goals first|(left;simp;done)|(left;rfl)|(refine .inr ⟨λx hx=>?_,?_⟩;(focus first|exact .inl (Sx.TG.wrote (by assumption) x hx)|(refine .inr (.inl ?_);have hz:=(Sx.D4 _ _ _ hx).1;simp at hz;exact hz));(repeat' (refine And.intro ?_ ?_));all_goals first|(exact Sx.Ar ..)|(refine Sx.Ax _ _ _ _ _ _ _ _ _ _ _ _ ?_;decide)|exact Sx.Ci ..|exact Sx.Dk (tk:=tk) (Sx.TG.wrote (by assumption)) Ce (.inl rfl)|exact Sx.Dk (tk:=tk) (Sx.TG.wrote (by assumption)) Ce (.inr ⟨_,rfl,hn,by simp [B5]⟩))
   . generalize hE:Be Lz _=hz
     have tB:TQ tk vl bq h1 hz:=by rw [<- hE];refine TQ.reL ?_ ?_ hLz<;>exact tqA
     have gB:∃q:Qr,hz.m.get bq=.cells [.int .i64 q.c0,v1,.int .i64 q.c2,.int .i64 q.c3,.int .i64 q.c4,.int .i64 q.c5,.str q.s6,.int .i64 q.c7,.Bv,.int .i64 q.c9,.bool q.Wz,.str q.Uw,.int .i64 q.W0,.str q.s13,.str q.s14,.str q.s15,.int .i64 q.c16,vm,.str q.s18,.int .i64 q.c19] 26 .exact/\q.code=t.nodes/\q.ord=[]/\q.E9=E9:=by
      rw [<- hE]
      exact ⟨⟨_,t.nodes,_,_,_,_,_,_,[],_,_,_,_,_,_,_,_,E9,_,_⟩,Sx.A2 ..,rfl,rfl,rfl⟩
     have tA:TQ tk vl bq h hz:=t1.trans tB hn
     have nB:Oo h.nx hz v1 t.nodes:=n1.tq A33 A3Q hn B6 G8 tB
     clear hE hLz g1 hg Aad
     obtain ⟨q,gq,q1,q2,q3⟩:=gB
     have AmV:=tA.at B6
     have Ana:=tA.isc hn G8
     have hlz:=tA.lo
     have fin:∀(hy:H) (q':Qr) (f:L2),TQ tk vl bq hz hy->hy.m.get bq=.cells (qc q' v1 .Bv vm) 26 .exact->q'.code=t.nodes->q'.ord=[]->q'.E9=E9->Sx.Ah Sx.H0 (λ_ h1=>TQ tk vl bq h h1/\Afg bq h.nx E9 vm h1) (AgA ctx N (.ptr tk 0) (.ptr bq 0) f hy):=by
      intro hy q' f ty gy b1 b2 b3
      have ta:TQ tk vl bq h hy:=tA.trans ty hn
      have ny:Oo h.nx hy v1 t.nodes:=nB.tq AmV Ana hn B6 G8 ty
      refine Sx.Ah.mono ((show ∀(hx:H) (q:Qr) (f0:L2),_ from hJ) hy q' f ((show ∀hx,TQ tk vl bq h hx->QIn tk vl L bq hx from hK) hy ta) gy) λv h2 _ r=>?_
      obtain ⟨te,q4,g4,r1,r2,r3⟩:=r
      exact ⟨ta.trans te hn,q4,v1,.Bv,g4,r3.trans b3,.inr ⟨t,y1,s1,r1.trans b1,ny.tq (ta.at B6) (ta.isc hn G8) hn B6 G8 te⟩,by rw [r2,b2];simp,by rw [r2,b2];exact Sx.Fm.nil ..⟩
     obtain ⟨c0,code,d2,d3,d4,d5,t6,d7,ord,d9,e10,t11,d12,y13,y14,y15,y16,mt,t18,d19⟩:=q
     simp only at gq q1 q2 q3
     replace fin:=(show F5 _ from fin)
     have tz:TQ tk vl bq hz hz:=TQ.refl AmV Ana hn
     repeat' (first|with_reducible (first|apply A7|apply A8|apply A9|apply Ba)|(with_reducible (first|apply Cy|apply Cz|apply C0|apply C1);(conv=>lhs;simp (disch:=first|exact dA|fail) [lw, *,gq]);with_reducible (first|apply A7|apply A8|apply A9|apply Ba|apply Cu|(refine Cv (by simp) ?_)|(apply Cw<;>intro hc<;>(try simp only [Bt] at hc)<;>(try (exfalso;omega)))))|(with_reducible (first|apply C2|apply C3|apply C4|apply C5)<;>intro hc<;>(try simp only [Bt] at hc)<;>(try (exfalso;omega))))
     . exact (show ∀(hy:H) (q':Qr) (f:L2),_ from fin) _ ⟨_,code,_,_,_,_,_,_,ord,_,_,_,_,_,_,_,_,mt,_,_⟩ _ tqA (Sx.A2 ..) q1 q2 q3
     . exact (show ∀(hy:H) (q':Qr) (f:L2),_ from fin) _ ⟨_,code,_,_,_,_,_,_,ord,_,_,_,_,_,_,_,_,mt,_,_⟩ _ tz gq q1 q2 q3
theorem Hu.tq2 {tk bq:Nat} {vl v:AV} {h h1:H} {l:List Cl} (hc:Hu bq h v l) (hc1:Hu tk h v l) (ht:Sx.H8 h tk vl) (hq:Vu 20 (h.m.get bq)=true) (hn:bq≠tk) (e:TQ tk vl bq h h1):Hu bq h1 v l:=
 ⟨Sl.tq hc.sl ht hc1.av hc.av hq hn e,hc.av,λc hh=>⟨(hc.ok c hh).Mu,Sl.tq (hc.ok c hh).words ht (hc1.ok c hh).av (hc.ok c hh).av hq hn e,(hc.ok c hh).av,(hc.ok c hh).one,(hc.ok c hh).cell⟩⟩
structure KIn (tk:Nat) (vl:AV) (L:List Int) (bq:Nat) (h:H) (cv:AV) (A1:List Cl):Prop where
 Q:QIn tk vl L bq h
 c1:Hu tk h cv A1
 c2:Hu bq h cv A1
 ne:A1≠[]
 Mu:A1.length<=30
theorem KIn.tq {tk:Nat} {vl:AV} {L:List Int} {bq:Nat} {h h1:H} {cv:AV} {A1:List Cl} (K:KIn tk vl L bq h cv A1) (e:TQ tk vl bq h h1):KIn tk vl L bq h1 cv A1:=
 ⟨K.Q.tq e,K.c1.tq K.c2 K.Q.hi.at' K.Q.hq K.Q.hn e,K.c2.tq2 K.c1 K.Q.hi.at' K.Q.hq K.Q.hn e,K.ne,K.Mu⟩
def R42:Prop:=∀(tk:Nat) (vl:AV) (L:List Int) (bq:Nat) (h:H) (cv:AV) (A1:List Cl) (q:Qr) (vm:AV),KIn tk vl L bq h cv A1->h.m.get bq=.cells (qc q .Bv .Bv vm) 26 .exact->q.code=[]->q.ord=[] ->
 Sx.Ah Sx.H0 (λ_ h1=>TQ tk vl bq h h1/\Afg bq h.nx q.E9 vm h1) (ctx.call 42 [.ptr tk 0,.ptr bq 0,cv] h)
set_option maxHeartbeats 2000000 in
theorem Auk (Fg:R38 ctx) (h79:R79 ctx) (h80:R80 ctx 3) (hN:100<N) (tk:Nat) (vl:AV) (L:List Int) (bq:Nat) (h:H) (cv:AV) (A1:List Cl) (q:Qr) (vm:AV) (K:KIn tk vl L bq h cv A1) (hqc:q.code=[]) (hqo:q.ord=[]):
 ∀(k:Nat) (i:Int) (n:Nat) (hd:H) (f0:L2),(k:Int)=i->i<(A1.length:Int)->k<n->TQ tk vl bq h hd->hd.m.get bq=.cells (qc q .Bv .Bv vm) 26 .exact->Sx.Ah Sx.H0 (λ_ h1=>TQ tk vl bq h h1/\Afg bq h.nx q.E9 vm h1) (Alm ctx N n (.ptr tk 0) (.ptr bq 0) cv (.int .i64 i) f0 hd):=by
 have B6:=K.Q.hi.at'.lt
 have G8:=K.Q.lt
 have hn:=K.Q.hn
 have A82:=K.Mu
 obtain ⟨c0,code,c2,c3,c4,c5,s6,c7,ord,c9,Wz,Uw,W0,z13,z14,z15,z16,E9,s18,c19⟩:=q
 simp only at hqc hqo
 subst hqc
 subst hqo
 intro k
 induction k using Nat.strongRecOn with
 |ind k ih=>
  intro i n hd f0 hk hi S3 e hg
  obtain ⟨n1,rfl⟩:∃n1,n=n1+1:=⟨n - 1,by omega⟩
  replace hg:hd.m.get bq=.cells [.int .i64 c0,.Bv,.int .i64 c2,.int .i64 c3,.int .i64 c4,.int .i64 c5,.str s6,.int .i64 c7,.Bv,.int .i64 c9,.bool Wz,.str Uw,.int .i64 W0,.str z13,.str z14,.str z15,.int .i64 z16,vm,.str s18,.int .i64 c19] 26 .exact:=hg
  have Kd:=K.tq e
  have X4:((i.toNat:Nat):Int)=i:=Int.toNat_of_nonneg (by omega)
  obtain ⟨c,hci⟩:∃c,A1[i.toNat]?=some c:=⟨_,List.getElem?_eq_getElem (by omega)⟩
  obtain ⟨b,o,el⟩:=Sx.R0.elem (f:=Hx) (s:=4) (λ_=>rfl) Kd.c1.sl hci
  have hcc:=Kd.c1.ok c (List.mem_of_getElem? hci)
  have x1:=el.ia
  rw [X4] at x1
  have x2:=el.all
  have w1:=hcc.one
  have w2:=hcc.cell
  have Cg:∀(hy:H) (s:List Nat) (tb:Bool) (b7:Nat) (f:L2),TQ tk vl bq h hy->hy.m.get b7=.cells (Hx c) 96 .exact->b7<hy.nx->b7≠tk->b7≠bq->hy.m.get bq=.cells (qc ⟨c0,[],c2,c3,c4,c5,s,c7,[],c9,Wz,Uw,W0,z13,z14,z15,z16,E9,s18,c19⟩ .Bv .Bv vm) 26 .exact->Sx.Ah Sx.H0 (λ_ h1=>TQ tk vl bq h h1/\Afg bq h.nx E9 vm h1) (Aee ctx N (.ptr tk 0) (.ptr bq 0) cv (.ptr b7 0) (.int .i64 c0) (.bool tb) f hy):=by
   intro hy s tb b7 f ty g7 l7 n7 m7 gy
   have Ky:=K.tq ty
   have hyl:=ty.lo
   exact Sx.Ah.mono (A9v ctx N Fg hN tk vl L bq hy Ky.Q cv b7 c g7 l7 n7 m7 vm ⟨c0,[],c2,c3,c4,c5,s,c7,[],c9,Wz,Uw,W0,z13,z14,z15,z16,E9,s18,c19⟩ gy rfl rfl (h80 tk vl L cv A1 3 hy rfl Ky.Q.hi Ky.c1 Ky.ne Ky.Mu) tb f) λv h1 _ r=>⟨ty.trans r.1 hn,r.2.mono hyl⟩
  have A3t:Sx.Ah hd (λr _=>∃b:Bool,r=.bool b/\(i=0->b=true)) (ctx.call 79 [cv,.int .i64 i] hd):=h79 tk A1 cv i hd Kd.c1 Kd.Mu (by omega) hi
  have Kf:=e.lo
  clear el X4 hci hcc K Kd h80 h79
  replace Cg:=(show F5 _ from Cg)
  replace ih:=(show F5 _ from ih)
  rw [AwZ]
  refine zc1 A3t λv1 h1 e1 l1 Aad q1=>?_
  clear A3t
  obtain ⟨bb,rfl,A1F⟩:=q1
  have t1:TQ tk vl bq h h1:=e.gr e1
  have g1:=(Aad bq (by omega)).trans hg
  cases bb
  . have hi0:i≠0:=λhh=>by have:=A1F hh;cases this
    repeat' (first|with_reducible (first|apply A7|apply A8|apply A9|apply Ba)|(with_reducible (first|apply Cy|apply Cz|apply C0|apply C1);(conv=>lhs;simp (disch:=first|exact dA|fail) [lw, *]);with_reducible (first|apply A7|apply A8|apply A9|apply Ba|apply Cu|(refine Cv (by simp) ?_)|(apply Cw<;>intro hc<;>(try simp only [Bt] at hc)<;>(try (exfalso;omega)))))|(with_reducible (first|apply Kl|apply Km);(conv=>lhs;simp only [zw,Bool.not_true]))|(with_reducible (first|apply C2|apply C3|apply C4|apply C5)<;>intro hc<;>(try simp only [Bt] at hc)<;>(try (exfalso;omega))))
    exact (show ∀m,m<k->∀(i:Int) (n:Nat) (hd:H) (f0:L2),_ from ih) (k - 1) (by omega) (i - 1) n1 h1 _ (by omega) (by omega) (by omega) t1 g1
  . repeat' (first|with_reducible (first|apply A7|apply A8|apply A9|apply Ba)|(with_reducible (first|apply Cy|apply Cz|apply C0|apply C1);(conv=>lhs;simp (disch:=first|exact dA|fail) [lw, *,x1,x2,g1]);with_reducible (first|apply A7|apply A8|apply A9|apply Ba|apply Cu|(refine Cv (by simp) ?_)|(apply Cw<;>intro hc<;>(try simp only [Bt] at hc)<;>(try (exfalso;omega)))))|(with_reducible (first|apply Kl|apply Km);(conv=>lhs;simp only [zw,Bool.not_true]))|(with_reducible (first|apply C2|apply C3|apply C4|apply C5)<;>intro hc<;>(try simp only [Bt] at hc)<;>(try (exfalso;omega))))
    . exact zr (Sx.Ed _) ⟨tqA,⟨_,[],_,_,_,_,_,_,[],_,_,_,_,_,_,_,_,E9,_,_⟩,.Bv,.Bv,Sx.A2 ..,rfl,.inl ⟨rfl,rfl⟩,by simp,Sx.Fm.nil ..⟩
    all_goals
     refine (show ∀(hy:H) (s:List Nat) (tb:Bool) (b7:Nat) (f:L2),_ from Cg) _ c.name _ h1.nx _ tqA ?_ Ce (by omega) (by omega) (Sx.A2 ..)
     show (H.put _ _ _).m.get _=_
     rw [Sx.Aq _ _ _ (show h1.nx≠bq by omega)]
     exact Sx.A2 ..
theorem r42 (Fg:R38 ctx) (h79:R79 ctx) (h80:R80 ctx 3) (hN:100<N) (tk:Nat) (vl:AV) (L:List Int) (bq:Nat) (h:H) (cv:AV) (A1:List Cl) (q:Qr) (vm:AV) (K:KIn tk vl L bq h cv A1) (hg:h.m.get bq=.cells (qc q .Bv .Bv vm) 26 .exact) (hqc:q.code=[]) (hqo:q.ord=[]):
 Sx.Ah Sx.H0 (λ_ h1=>TQ tk vl bq h h1/\Afg bq h.nx q.E9 vm h1) (Ay Tryz.prog ctx N false 42 [.ptr tk 0,.ptr bq 0,cv] h):=by
 rw [e42]
 have hlen:∀hh,Fo cv hh=.ok (.int .i64 (A1.length:Int)) hh:=λ_=>K.c1.sl.Gs
 have A82:=K.Mu
 have hlp:0<A1.length:=List.length_pos_iff.2 K.ne
 refine Sx.Ey (hlen _) ?_
 refine Sx.M5 (K.Q.Adl ctx Fg _ h (TQ.refl K.Q.hi.at' K.Q.hq K.Q.hn) (by omega)) λv1 h1 e1 l1 Aad q1=>?_
 obtain ⟨i,rfl,i0,i1⟩:=q1
 exact Auk ctx N Fg h79 h80 hN tk vl L bq h cv A1 q vm K hqc hqo i.toNat i N h1 _ (by omega) (by omega) (by omega) ((TQ.refl K.Q.hi.at' K.Q.hq K.Q.hn).tg e1) ((Aad bq K.Q.lt K.Q.hn).trans hg)
end Go.Proofs
