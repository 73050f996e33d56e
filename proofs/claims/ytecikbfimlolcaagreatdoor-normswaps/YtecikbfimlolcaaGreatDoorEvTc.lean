/- Lists of nodes of one's own, written as they are made. -/
import Derived.Test.YtecikbfimlolcaaGreatDoorEvTb
import Derived.Test.YtecikbfimlolcaaGreatDoorEvSa
set_option maxRecDepth 100000
set_option linter.unusedSimpArgs false
set_option linter.unusedVariables false
noncomputable section
namespace Go.Proofs
open Go Go.Ev Go.Nm
attribute [local irreducible] Aa Al Af Ad
variable (ctx:Ac) (N:Nat)
structure ClR (tk:Nat) (h:H) (c:Cl):Prop where
 Mu:c.ws.length<=5
 words:WsS h c.w c.ws
 av:Sx.Av tk c.w
 one:Ge c.w=true
 cell:cellsOf c.w=some [c.w]
structure Hu (tk:Nat) (h:H) (v:AV) (l:List Cl):Prop where
 sl:Sx.R0 4 Hx h v l
 av:Sx.Av tk v
 ok:∀c∈l,ClR tk h c
structure ScR (tk:Nat) (h:H) (s:Sc):Prop where
 nn:s.name≠[]
 ne:s.A1≠[]
 Mu:s.A1.length<=5
 A1:Hu tk h s.cv s.A1
 one:Ge s.cv=true
 cell:cellsOf s.cv=some [s.cv]
 cz:∀b off len cap z ex,s.cv=.sl b off len cap z ex->0<len->b<tk/\∀k,B5 (h.m.get b)=some k->k<tk
structure W9 (tk:Nat) (h:H) (v:AV) (l:List Sc):Prop where
 ne:l≠[]
 Mu:l.length<=3
 sl:Sx.R0 4 Ze h v l
 av:Sx.Av tk v
 ok:∀s∈l,ScR tk h s
theorem ClR.By {tk:Nat} {h h1:H} {c:Cl} (hc:ClR tk h c) (e:Sx.Bi h h1):ClR tk h1 c:=⟨hc.Mu,Sx.Sl.By hc.words e,hc.av,hc.one,hc.cell⟩
theorem ClR.tg {tk:Nat} {h h1:H} {c:Cl} {vl:AV} (hc:ClR tk h c) (ht:Sx.H8 h tk vl) (e:Sx.TG tk vl h h1):ClR tk h1 c:=⟨hc.Mu,Sx.Sl.tg hc.words ht hc.av e,hc.av,hc.one,hc.cell⟩
theorem Hu.By {tk:Nat} {h h1:H} {v:AV} {l:List Cl} (hc:Hu tk h v l) (e:Sx.Bi h h1):Hu tk h1 v l:=⟨Sx.Sl.By hc.sl e,hc.av,λc hh=>(hc.ok c hh).By e⟩
theorem Hu.tg {tk:Nat} {h h1:H} {v vl:AV} {l:List Cl} (hc:Hu tk h v l) (ht:Sx.H8 h tk vl) (e:Sx.TG tk vl h h1):Hu tk h1 v l:=⟨Sx.Sl.tg hc.sl ht hc.av e,hc.av,λc hh=>(hc.ok c hh).tg ht e⟩
theorem ScR.tg {tk:Nat} {h h1:H} {s:Sc} {vl:AV} (hc:ScR tk h s) (ht:Sx.H8 h tk vl) (e:Sx.TG tk vl h h1):ScR tk h1 s:=⟨hc.nn,hc.ne,hc.Mu,hc.A1.tg ht e,hc.one,hc.cell,λb off len cap z ex hv h0=>by
 obtain ⟨q1,q2⟩:=hc.cz b off len cap z ex hv h0
 refine ⟨q1,λk hk=>q2 k ?_⟩
 rw [<- hk,e.Cf b (Nat.lt_trans q1 ht.lt) (Nat.ne_of_lt q1)]⟩
theorem W9.tg {tk:Nat} {h h1:H} {v vl:AV} {l:List Sc} (hc:W9 tk h v l) (ht:Sx.H8 h tk vl) (e:Sx.TG tk vl h h1):W9 tk h1 v l:=⟨hc.ne,hc.Mu,Sx.Sl.tg hc.sl ht hc.av e,hc.av,λc hh=>(hc.ok c hh).tg ht e⟩
theorem R8.r {lo tk:Nat} {r:AV} {h1:H} (ho:R8 lo r h1) (hk:h1.nx<=tk):∃l,W9 tk h1 r l:=by
 obtain ⟨l,q1,q2,q3⟩:=ho
 refine ⟨l,q1,q2,q3.own.sl,Sl.av q3.own.sl hk,λs hs=>?_⟩
 have a:=q3.ok s hs
 exact ⟨a.nn,a.ne,a.Mu,⟨a.A1.sl,Sl.av a.A1.sl hk,λc hc=>⟨(a.A1.ok c hc).Mu,(a.A1.ok c hc).words,Sl.av (a.A1.ok c hc).words hk,(a.A1.ok c hc).one,(a.A1.ok c hc).cell⟩⟩,a.one,a.cell,λb off len cap z ex hv h0=>by
  obtain ⟨p1,p2⟩:=a.kz b off len cap z ex hv h0
  exact ⟨Nat.lt_of_lt_of_le p1 hk,λk hkk=>Nat.lt_of_lt_of_le (p2 k hkk) hk⟩⟩
theorem Ail {tk:Nat} {h:H}:∀{l:List Cl},(∀c∈l,ClR tk h c)->Bm (l.flatMap Hx)=true
 |[],_=>rfl
 |c::l,hc=>by
  have ih:=Ail (l:=l) λx hx=>hc x (List.mem_cons_of_mem _ hx)
  have h1:=(hc c (List.mem_cons_self ..)).one
  simp [ih,h1]
def AoL (ss:List Sc) (lo:Nat) (r:AV) (h1:H):Prop:=∃l:List Cl,l≠[]/\l.length<=30/\Sx.Fm 4 lo 96 h1 r l.length (l.flatMap Hx)/\∀c∈l,∃s∈ss,c∈s.A1
theorem AfL {Q:AV->H->Prop} (tk:Nat) (h:H) (sv:AV) (ss:List Sc) (hs:W9 tk h sv ss) (n1:Nat) (t1 t2 t8:AV) (nm:List Nat) (base:Nat) (hb:base<=15)
 (Qz:∀(v:AV) (l:List Cl) (hd:H) (f:L2),l≠[]->l.length<=base+15->Sx.Fm 4 h.nx 96 hd v l.length (l.flatMap Hx)->(∀c∈l,∃s∈ss,c∈s.A1)->Sx.Ai h hd->Sx.Bi h hd->Sx.Ah h Q (AoV ctx N n1 sv t1 t2 v t8 f hd)):
 ∀(k:Nat) (i:Int) (n:Nat) (l:List Cl) (v:AV) (hd:H) (f0:L2),i+(k:Int)=(ss.length:Int)->0<=i->k<n->(l.length:Int)<=base+5 * i->(l≠[]\/∃(m:Nat) (s:Sc),i<=(m:Int)/\ss[m]?=some s/\s.name=nm)->Sx.Fm 4 h.nx 96 hd v l.length (l.flatMap Hx)->(∀c∈l,∃s∈ss,c∈s.A1)->Sx.Ai h hd->Sx.Bi h hd->Sx.Ah h Q (All ctx N n1 n sv t1 t2 v t8 (.str nm) (.int .i64 i) f0 hd)
 |0,i,n,l,v,hd,f0,hik,hi0,hn,hl,hf,ho,hm,hg,hk=>by
  obtain ⟨n2,rfl⟩:∃n2,n=n2+1:=⟨n - 1,by omega⟩
  have k1:decide (i<(ss.length:Int))=false:=decide_eq_false (by omega)
  have hlen:∀hh,Fo sv hh=.ok (.int .i64 (ss.length:Int)) hh:=λ_=>hs.sl.Gs
  have Hr:l≠[]:=by
   rcases hf with hf|⟨m,s,q1,q2,q3⟩
   . exact hf
   . have:=(List.getElem?_eq_some_iff.1 q2).1
     omega
  have hss:=hs.Mu
  rw [Apg]
  repeat' (first|with_reducible (first|apply A7|apply A8|apply A9|apply Ba)|(with_reducible (first|apply Cy|apply Cz|apply C0|apply C1);(conv=>lhs;simp (disch:=first|exact dA|fail) [lw, *,k1,hlen]);with_reducible (first|apply A7|apply A8|apply A9|apply Ba|apply Cu|(refine Cv (by simp) ?_)|(apply Cw<;>intro hc<;>(try simp only [Bt] at hc)<;>(try (exfalso;omega)))))|(with_reducible (first|apply Kl|apply Km);(conv=>lhs;simp only [zw,k1]))|(with_reducible (first|apply C2|apply C3|apply C4|apply C5)<;>intro hc<;>(try simp only [Bt] at hc)<;>(try (exfalso;omega))))
  exact Qz v l hd _ Hr (by omega) ho hm hg hk
 |k+1,i,n,l,v,hd,f0,hik,hi0,hn,hl,hf,ho,hm,hg,hk=>by
  obtain ⟨n2,rfl⟩:∃n2,n=n2+1:=⟨n - 1,by omega⟩
  have ih:=AfL tk h sv ss hs n1 t1 t2 t8 nm base hb Qz k (i+1) n2
  have k1:decide (i<(ss.length:Int))=true:=decide_eq_true (by omega)
  have hlen:∀hh,Fo sv hh=.ok (.int .i64 (ss.length:Int)) hh:=λ_=>hs.sl.Gs
  have hss:=hs.Mu
  have X4:((i.toNat:Nat):Int)=i:=Int.toNat_of_nonneg hi0
  obtain ⟨s,hsi⟩:∃s,ss[i.toNat]?=some s:=⟨_,List.getElem?_eq_getElem (by omega)⟩
  have hsm:=List.mem_of_getElem? hsi
  have hso:=(hs.ok s hsm)
  obtain ⟨b,o,el⟩:=Sx.R0.elem (f:=Ze) (s:=4) (λ_=>rfl) (Sx.Sl.By hs.sl hk) hsi
  have x1:=el.ia
  rw [X4] at x1
  have x2:=el.part 0 _ rfl
  rw [Nat.add_zero] at x2
  have x3:=el.part 3 _ rfl
  clear el
  rw [Apg]
  repeat' (first|with_reducible (first|apply A7|apply A8|apply A9|apply Ba)|(with_reducible (first|apply Cy|apply Cz|apply C0|apply C1);(conv=>lhs;simp (disch:=first|exact dA|fail) [lw, *,k1,hlen,x1,x2,x3]);with_reducible (first|apply A7|apply A8|apply A9|apply Ba|apply Cu|(refine Cv (by simp) ?_)|(apply Cw<;>intro hc<;>(try simp only [Bt] at hc)<;>(try (exfalso;omega)))))|(with_reducible (first|apply Kl|apply Km);(conv=>lhs;simp only [zw,k1]))|(with_reducible (first|apply C2|apply C3|apply C4|apply C5)<;>intro hc<;>(try simp only [Bt] at hc)<;>(try (exfalso;omega))))
  . have X3:=Sx.Sl.By hso.A1.sl hk
    have hf5:=hso.Mu
    have Kf:=hg.lo
    obtain ⟨v',h',q1,q2,q3,q4,q5⟩:=Sx.Fm.AbQ (bytes:=56) (lo:=h.nx) ho X3.src X3.Rv (by omega) (Ail hso.A1.ok) Kf
    refine Sx.Ey q1 ?_
    clear q1
    rw [AoU]
    repeat' (first|with_reducible (first|apply A7|apply A8|apply A9|apply Ba)|(with_reducible (first|apply Cy|apply Cz|apply C0|apply C1);(conv=>lhs;simp (disch:=first|exact dA|fail) [lw, *]);with_reducible (first|apply A7|apply A8|apply A9|apply Ba|apply Cu|(refine Cv (by simp) ?_)|(apply Cw<;>intro hc<;>(try simp only [Bt] at hc)<;>(try (exfalso;omega)))))|(with_reducible (first|apply C2|apply C3|apply C4|apply C5)<;>intro hc<;>(try simp only [Bt] at hc)<;>(try (exfalso;omega))))
    refine ih (l++s.A1) v' h' _ (by omega) (by omega) (by omega) (by rw [List.length_append];omega) (.inl (by have:=hso.ne;simp [this])) ?_ (λc Hq=>?_) (q3 h (Nat.le_refl _) hg) (hk.trans q2)
    . rw [List.length_append,List.flatMap_append]
      exact q4
    . rcases List.mem_append.1 Hq with Hq|Hq
      . exact hm c Hq
      . exact ⟨s,hsm,Hq⟩
  . have hcn:¬ s.name=nm:=by assumption
    rw [AoU]
    repeat' (first|with_reducible (first|apply A7|apply A8|apply A9|apply Ba)|(with_reducible (first|apply Cy|apply Cz|apply C0|apply C1);(conv=>lhs;simp (disch:=first|exact dA|fail) [lw, *]);with_reducible (first|apply A7|apply A8|apply A9|apply Ba|apply Cu|(refine Cv (by simp) ?_)|(apply Cw<;>intro hc<;>(try simp only [Bt] at hc)<;>(try (exfalso;omega)))))|(with_reducible (first|apply C2|apply C3|apply C4|apply C5)<;>intro hc<;>(try simp only [Bt] at hc)<;>(try (exfalso;omega))))
    refine ih l v hd _ (by omega) (by omega) (by omega) (by omega) ?_ ho hm hg hk
    rcases hf with hf|⟨m,s2,q1,q2,q3⟩
    . exact .inl hf
    . refine .inr ⟨m,s2,?_,q2,q3⟩
      by_cases hmi:(m:Int)=i
      . subst hmi
        rw [Int.toNat_natCast] at hsi
        rw [hsi] at q2
        cases q2
        exact absurd q3 hcn
      . omega
  . have hcn:nm=[]:=by assumption
    refine Qz v l hd _ ?_ (by omega) ho hm hg hk
    rcases hf with hf|⟨m,s2,q1,q2,q3⟩
    . exact hf
    . exact absurd (q3.trans hcn) (hs.ok s2 (List.mem_of_getElem? q2)).nn
def R40:Prop:=∀(tk:Nat) (ss:List Sc) (sv:AV) (t o:List Nat) (h:H),W9 tk h sv ss->(∃s∈ss,s.name=t)->Sx.Ah h (AoL ss h.nx) (ctx.call 40 [sv,.str t,.str o] h)
theorem r40 (hN:100<N) (tk:Nat) (ss:List Sc) (sv:AV) (t o:List Nat) (h:H) (hs:W9 tk h sv ss) (ht:∃s∈ss,s.name=t):Sx.Ah h (AoL ss h.nx) (Ay Tryz.prog ctx N true 40 [sv,.str t,.str o] h):=by
 rw [e40]
 obtain ⟨N1,rfl⟩:∃N1,N=N1+3:=⟨N - 3,by omega⟩
 have hf:=hs.Mu
 rw [Ajk]
 repeat' (first|with_reducible (first|apply A7|apply A8|apply A9|apply Ba)|(with_reducible (first|apply Cy|apply Cz|apply C0|apply C1);(conv=>lhs;simp (disch:=first|exact dA|fail) [lw, *]);with_reducible (first|apply A7|apply A8|apply A9|apply Ba|apply Cu|(refine Cv (by simp) ?_)|(apply Cw<;>intro hc<;>(try simp only [Bt] at hc)<;>(try (exfalso;omega)))))|(with_reducible (first|apply C2|apply C3|apply C4|apply C5)<;>intro hc<;>(try simp only [Bt] at hc)<;>(try (exfalso;omega)))|(rw [AoS]))
 refine AfL ctx (N1+3) tk h sv ss hs (N1+2) _ _ _ t 0 (by omega) ?_ ss.length 0 _ [] .Bv h _ (by omega) (by omega) (by omega) (by simp) ?_ (Sx.Fm.nil ..) (λc hc=>by cases hc) (Sx.Ai.refl h) (Sx.Bi.refl h)
 . intro v l hd f h1 h2 h3 h4 h5 h6
   rw [AoW]
   repeat' (first|with_reducible (first|apply A7|apply A8|apply A9|apply Ba)|(with_reducible (first|apply Cy|apply Cz|apply C0|apply C1);(conv=>lhs;simp (disch:=first|exact dA|fail) [lw, *]);with_reducible (first|apply A7|apply A8|apply A9|apply Ba|apply Cu|(refine Cv (by simp) ?_)|(apply Cw<;>intro hc<;>(try simp only [Bt] at hc)<;>(try (exfalso;omega)))))|(with_reducible (first|apply C2|apply C3|apply C4|apply C5)<;>intro hc<;>(try simp only [Bt] at hc)<;>(try (exfalso;omega))))
   rw [Ajk]
   repeat' (first|with_reducible (first|apply A7|apply A8|apply A9|apply Ba)|(with_reducible (first|apply Cy|apply Cz|apply C0|apply C1);(conv=>lhs;simp (disch:=first|exact dA|fail) [lw, *]);with_reducible (first|apply A7|apply A8|apply A9|apply Ba|apply Cu|(refine Cv (by simp) ?_)|(apply Cw<;>intro hc<;>(try simp only [Bt] at hc)<;>(try (exfalso;omega)))))|(with_reducible (first|apply C2|apply C3|apply C4|apply C5)<;>intro hc<;>(try simp only [Bt] at hc)<;>(try (exfalso;omega)))|(rw [AoS]))
   refine AfL ctx (N1+3) tk h sv ss hs (N1+1) _ _ _ o 15 (by omega) ?_ ss.length 0 _ l v hd _ (by omega) (by omega) (by omega) (by omega) (.inl h1) h3 h4 h5 h6
   intro v l hd f h1 h2 h3 h4 h5 h6
   rw [AoW]
   repeat' (first|with_reducible (first|apply A7|apply A8|apply A9|apply Ba)|(with_reducible (first|apply Cy|apply Cz|apply C0|apply C1);(conv=>lhs;simp (disch:=first|exact dA|fail) [lw, *]);with_reducible (first|apply A7|apply A8|apply A9|apply Ba|apply Cu|(refine Cv (by simp) ?_)|(apply Cw<;>intro hc<;>(try simp only [Bt] at hc)<;>(try (exfalso;omega)))))|(with_reducible (first|apply C2|apply C3|apply C4|apply C5)<;>intro hc<;>(try simp only [Bt] at hc)<;>(try (exfalso;omega))))
   rw [Ajk]
   repeat' (first|with_reducible (first|apply A7|apply A8|apply A9|apply Ba)|(with_reducible (first|apply Cy|apply Cz|apply C0|apply C1);(conv=>lhs;simp (disch:=first|exact dA|fail) [lw, *]);with_reducible (first|apply A7|apply A8|apply A9|apply Ba|apply Cu|(refine Cv (by simp) ?_)|(apply Cw<;>intro hc<;>(try simp only [Bt] at hc)<;>(try (exfalso;omega)))))|(with_reducible (first|apply C2|apply C3|apply C4|apply C5)<;>intro hc<;>(try simp only [Bt] at hc)<;>(try (exfalso;omega))))
   exact zr h5 ⟨l,h1,h2,h3,h4⟩
 . obtain ⟨s,h1,h2⟩:=ht
   obtain ⟨m,h3⟩:=List.getElem?_of_mem h1
   exact .inr ⟨m,s,by omega,h3,h2⟩
def R44:Prop:=∀(o:Int) (h:H),Sx.Ah h (λr _=>r=.int .i64 (arI o)) (ctx.call 44 [.int .i64 o] h)
def R45:Prop:=∀(o:Int) (h:H),Sx.Ah h (λr _=>r=.int .i64 (flI o)) (ctx.call 45 [.int .i64 o] h)
theorem r44 (o:Int) (h:H):Sx.Ah h (λr _=>r=.int .i64 (arI o)) (Ay Tryz.prog ctx N true 44 [.int .i64 o] h):=by
 rw [e44]
 repeat' (first|with_reducible (first|apply A7|apply A8|apply A9|apply Ba)|(with_reducible (first|apply Cy|apply Cz|apply C0|apply C1);(conv=>lhs;simp (disch:=first|exact dA|fail) [lw, *]);with_reducible (first|apply A7|apply A8|apply A9|apply Ba|apply Cu|(refine Cv (by simp) ?_)|(apply Cw<;>intro hc<;>(try simp only [Bt] at hc)<;>(try (exfalso;omega)))))|(with_reducible (first|apply C2|apply C3|apply C4|apply C5)<;>intro hc<;>(try simp only [Bt] at hc)<;>(try (exfalso;omega)))|(rw [AwU])|(rw [AwV]))
 all_goals (refine zr (Sx.Ai.refl _) ?_;unfold arI;repeat' split)
 all_goals first|rfl|(exfalso;omega)|(simp_all;done)
theorem r45 (o:Int) (h:H):Sx.Ah h (λr _=>r=.int .i64 (flI o)) (Ay Tryz.prog ctx N true 45 [.int .i64 o] h):=by
 rw [e45]
 repeat' (first|with_reducible (first|apply A7|apply A8|apply A9|apply Ba)|(with_reducible (first|apply Cy|apply Cz|apply C0|apply C1);(conv=>lhs;simp (disch:=first|exact dA|fail) [lw, *]);with_reducible (first|apply A7|apply A8|apply A9|apply Ba|apply Cu|(refine Cv (by simp) ?_)|(apply Cw<;>intro hc<;>(try simp only [Bt] at hc)<;>(try (exfalso;omega)))))|(with_reducible (first|apply C2|apply C3|apply C4|apply C5)<;>intro hc<;>(try simp only [Bt] at hc)<;>(try (exfalso;omega)))|(rw [AwW]))
 all_goals (refine zr (Sx.Ai.refl _) ?_;unfold flI;repeat' split)
 all_goals first|rfl|(exfalso;omega)|(simp_all;done)
def R79:Prop:=∀(tk:Nat) (A1:List Cl) (cv:AV) (i:Int) (h:H),Hu tk h cv A1->A1.length<=30->0<=i->i<(A1.length:Int)->Sx.Ah h (λr _=>∃b:Bool,r=.bool b/\(i=0->b=true)) (ctx.call 79 [cv,.int .i64 i] h)
theorem AqZ (tk:Nat) (A1:List Cl) (cv:AV) (i:Int) (h:H) (hc:Hu tk h cv A1) (hl:A1.length<=30) (hi0:0<=i) (hi:i<(A1.length:Int)):
 ∀(k:Nat) (m:Int) (n:Nat) (hd:H) (f0:L2),m+(k:Int)=i->0<=m->k<n->Sx.Ai h hd->Sx.Ah h (λr _=>∃b:Bool,r=.bool b/\(i=0->b=true)) (Alp ctx N n cv (.int .i64 i) (.int .i64 m) f0 hd)
 |0,m,n,hd,f0,hm,hm0,hn,hg=>by
  obtain ⟨n1,rfl⟩:∃n1,n=n1+1:=⟨n - 1,by omega⟩
  have k1:decide (m<i)=false:=decide_eq_false (by omega)
  rw [Apl]
  repeat' (first|with_reducible (first|apply A7|apply A8|apply A9|apply Ba)|(with_reducible (first|apply Cy|apply Cz|apply C0|apply C1);(conv=>lhs;simp (disch:=first|exact dA|fail) [lw, *,k1]);with_reducible (first|apply A7|apply A8|apply A9|apply Ba|apply Cu|(refine Cv (by simp) ?_)|(apply Cw<;>intro hc<;>(try simp only [Bt] at hc)<;>(try (exfalso;omega)))))|(with_reducible (first|apply Kl|apply Km);(conv=>lhs;simp only [zw,k1]))|(with_reducible (first|apply C2|apply C3|apply C4|apply C5)<;>intro hc<;>(try simp only [Bt] at hc)<;>(try (exfalso;omega))))
  exact zr hg ⟨true,rfl,λ_=>rfl⟩
 |k+1,m,n,hd,f0,hm,hm0,hn,hg=>by
  obtain ⟨n1,rfl⟩:∃n1,n=n1+1:=⟨n - 1,by omega⟩
  have ih:=AqZ tk A1 cv i h hc hl hi0 hi k (m+1) n1
  have k1:decide (m<i)=true:=decide_eq_true (by omega)
  have hmm:((m.toNat:Nat):Int)=m:=Int.toNat_of_nonneg hm0
  have X4:((i.toNat:Nat):Int)=i:=Int.toNat_of_nonneg hi0
  obtain ⟨c1,hc1⟩:∃s,A1[m.toNat]?=some s:=⟨_,List.getElem?_eq_getElem (by omega)⟩
  obtain ⟨c2,hc2⟩:∃s,A1[i.toNat]?=some s:=⟨_,List.getElem?_eq_getElem (by omega)⟩
  have hk:=hg.keeps
  obtain ⟨b1,o1,el1⟩:=Sx.R0.elem (f:=Hx) (s:=4) (λ_=>rfl) (Sx.Sl.By hc.sl hk) hc1
  obtain ⟨b2,o2,el2⟩:=Sx.R0.elem (f:=Hx) (s:=4) (λ_=>rfl) (Sx.Sl.By hc.sl hk) hc2
  have x1:=el1.ia
  rw [hmm] at x1
  have x2:=el1.part 0 _ rfl
  rw [Nat.add_zero] at x2
  have x3:=el2.ia
  rw [X4] at x3
  have x4:=el2.part 0 _ rfl
  rw [Nat.add_zero] at x4
  clear el1 el2
  rw [Apl]
  repeat' (first|with_reducible (first|apply A7|apply A8|apply A9|apply Ba)|(with_reducible (first|apply Cy|apply Cz|apply C0|apply C1);(conv=>lhs;simp (disch:=first|exact dA|fail) [lw, *,k1,x1,x2,x3,x4]);with_reducible (first|apply A7|apply A8|apply A9|apply Ba|apply Cu|(refine Cv (by simp) ?_)|(apply Cw<;>intro hc<;>(try simp only [Bt] at hc)<;>(try (exfalso;omega)))))|(with_reducible (first|apply Kl|apply Km);(conv=>lhs;simp only [zw,k1]))|(with_reducible (first|apply C2|apply C3|apply C4|apply C5)<;>intro hc<;>(try simp only [Bt] at hc)<;>(try (exfalso;omega))))
  . exact zr Ex ⟨false,rfl,λh0=>by omega⟩
  . exact ih _ _ (by omega) (by omega) (by omega) Ex
theorem r79 (hN:100<N) (tk:Nat) (A1:List Cl) (cv:AV) (i:Int) (h:H) (hc:Hu tk h cv A1) (hl:A1.length<=30) (hi0:0<=i) (hi:i<(A1.length:Int)):Sx.Ah h (λr _=>∃b:Bool,r=.bool b/\(i=0->b=true)) (Ay Tryz.prog ctx N true 79 [cv,.int .i64 i] h):=by
 rw [e79]
 exact AqZ ctx N tk A1 cv i h hc hl hi0 hi i.toNat 0 N h _ (by omega) (by omega) (by omega) (Sx.Ai.refl h)
theorem Ahy {s len B1 bytes b off lo:Nat} {et:TypeId} {h:H} {y:AV} {c c' cs:List AV} (Sz:Sx.Nv h b cs) (ho:off+len * s<=cs.length) (hc:(cs.drop off).take (len * s)=c) (F6:Hd h s y=some (B1,c')) (Ox:c'.length=B1 * s) (hb:(len+B1) * (bytes+1)<1000000000000) (h1:Bm c'=true) (h0:0<B1) (Kf:lo<=h.nx):
 ∃v h',Ds et s bytes (.sl b off len len s true) y h=.ok v h'/\Sx.Ai h h'/\Sx.Fm s lo et h' v (len+B1) (c++c'):=by
 have hn:(c++c').length=(len+B1) * s:=by
  rw [List.length_append,Ox,<- hc,List.length_take,List.length_drop,Nat.add_mul]
  omega
 have Ae9:grow h et s (c++c') (len+B1)=.ok (.sl (Nat.succ h.nx) 0 (len+B1) (len+B1) s false) ((h.new (.Fb 0)).new (.cells (c++c') et (.Gt h.nx))):=rfl
 have A8P:Sx.Fm s lo et ((h.new (.Fb 0)).new (.cells (c++c') et (.Gt h.nx))) (.sl (Nat.succ h.nx) 0 (len+B1) (len+B1) s false) (len+B1) (c++c'):=by
  refine .inr (.inr ⟨h.nx+1,h.nx,0,rfl,Sx.Bf (h:=h.new (.Fb 0)) _,?_,by omega,Kf,by show h.nx+1<h.nx+1+1;omega,by show h.nx<h.nx+1+1;omega,by omega,hn⟩)
  rw [Sx.Cq (h:=h.new (.Fb 0)) _ h.nx (by show h.nx≠h.nx+1;omega)]
  exact Sx.Bf _
 have hr:Ds et s bytes (.sl b off len len s true) y h=(match Hd h s y with
  |some (n,new)=>C6 (.bad 121) (C6 (.bad 121) (C6 (.bad 121) (Lg ⟨et,s,bytes⟩ b off len len s true n new h) (Nat.beq s s)) (Bm new)) (Gj ((len+n) * (bytes+1)))
  |none=>.bad 123):=rfl
 have h4:Nat.ble (Nat.add len B1) len=false:=by
  cases hx:Nat.ble (Nat.add len B1) len with
  |false=>rfl
  |true=>
   have:len+B1<=len:=Nat.le_of_ble_eq_true hx
   omega
 have Du:(C6 (.bad 121) (C6 (.bad 121) (C6 (.bad 121) (Lg ⟨et,s,bytes⟩ b off len len s true B1 c' h) true) true) true:OR)=grow h et s (c++c') (len+B1):=by
  show (C6 _ _ (Nat.ble (Nat.add len B1) len):OR)=_
  rw [h4]
  show Sf ⟨et,s,bytes⟩ b off len (Nat.add len B1) c' h=_
  unfold Sf
  rw [Sx.AaS,Sz.rd]
  simp only [E5,ho,if_true,Dl,hc]
  rfl
 rw [hr,F6]
 simp only [h1,Sx.Fi,decide_eq_true hb,Nat.beq_refl]
 rw [Du]
 exact ⟨_,_,Ae9,((Sx.Ai.refl h).new _).new _,A8P⟩
def Oo (lo:Nat) (h:H) (v:AV) (l:List Nd):Prop:=NdO lo h v l\/∃b off cs,v=.sl b off l.length l.length 3 true/\Sx.Nv h b cs/\off+l.length * 3<=cs.length/\(cs.drop off).take (l.length * 3)=l.flatMap Bw/\lo<=b
theorem Oo.sl {lo:Nat} {h:H} {v:AV} {l:List Nd} (hv:Oo lo h v l):Ue h v l:=by
 rcases hv with hv|⟨b,off,cs,rfl,q1,q2,q3,q4⟩
 . exact hv.sl
 . exact .inr ⟨b,off,_,true,cs,rfl,Nat.le_refl _,q1,q2,q3⟩
theorem Oo.beh {lo:Nat} {h:H} {v:AV} {l:List Nd} (hv:Oo lo h v l):W7 3 lo v:=by
 rcases hv with hv|⟨b,off,cs,rfl,q1,q2,q3,q4⟩
 . exact W7.own hv
 . intro b' Yk len cap z ex hv h0
   cases hv
   exact q4
theorem Oo.Y5 {lo Z6:Nat} {h:H} {v:AV} {l:List Nd} (hv:Oo lo h v l) (hl:Z6<=lo):Oo Z6 h v l:=by
 rcases hv with hv|⟨b,off,cs,rfl,q1,q2,q3,q4⟩
 . exact .inl (Yp hv hl)
 . exact .inr ⟨b,off,cs,rfl,q1,q2,q3,Nat.le_trans hl q4⟩
theorem Oo.gr {lo:Nat} {h h1:H} {v:AV} {l:List Nd} (hv:Oo lo h v l) (e:Sx.Ai h h1):Oo lo h1 v l:=by
 rcases hv with hv|⟨b,off,cs,rfl,q1,q2,q3,q4⟩
 . exact .inl (hv.gr e)
 . exact .inr ⟨b,off,cs,rfl,e.keeps.cont b cs q1,q2,q3,q4⟩
theorem Oo.rl {lo:Nat} {h:H} {v:AV} {l:List Nd} {lg:List Nat} (hv:Oo lo h v l):Oo lo (Be lg h) v l:=by
 rcases hv with (h3|⟨h1,h2,b,off,cs,h4,h5,h6⟩|h3)|⟨b,off,cs,rfl,q1,q2,q3,q4⟩
 . exact .inl (.inl h3)
 . exact .inl (.inr (.inl ⟨h1,h2,b,off,cs,h4,((Sx.Bi.refl h).Be lg).cont b cs h5,h6⟩))
 . exact .inl (.inr (.inr h3))
 . exact .inr ⟨b,off,cs,rfl,((Sx.Bi.refl h).Be lg).cont b cs q1,q2,q3,q4⟩
theorem Oo.tg {lo tk:Nat} {h h1:H} {v vl:AV} {l:List Nd} (hv:Oo lo h v l) (ht:Sx.H8 h tk vl) (Kf:tk<lo) (e:Sx.TG tk vl h h1):Oo lo h1 v l:=by
 rcases hv with hv|⟨b,off,cs,rfl,q1,q2,q3,q4⟩
 . exact .inl (Fm.tg hv ht Kf e)
 . have hs:Sx.Sl 3 h (.sl b off l.length l.length 3 true) l.length (l.flatMap Bw):=.inr ⟨b,off,_,true,cs,rfl,Nat.le_refl _,q1,q2,q3⟩
   rcases Sx.Sl.tg hs ht (λb' off len cap z ex hv h0=>by cases hv;omega) e with ⟨_,_,h4⟩|⟨b',Yk,cap,ex,D7,h4,q5,q6,q7,q8⟩
   . cases h4
   . cases h4
     exact .inr ⟨b,off,D7,rfl,q6,q7,q8,q4⟩
theorem Oo.one {lo:Nat} {h:H} {v:AV} {l:List Nd} (hv:Oo lo h v l):Ge v=true/\cellsOf v=some [v]:=B2 hv.sl
theorem Ab9:∀l:List Nd,Bm (l.flatMap Bw)=true:=Tk
theorem Z8 {tk:Nat} {vl:AV} {h hc:H} {v w:AV} {l m:List Nd} (he:Sx.TG tk vl h hc) (hv:Oo h.nx hc v l) (hw:Ue hc w m) (hm:m≠[]) (hl:l.length+m.length<=1000):
 ∃v' h',Ds 32 3 32 v w hc=.ok v' h'/\Sx.TG tk vl h h'/\Oo h.nx h' v' (l++m)/\hc.nx<=h'.nx:=by
 have hp:0<m.length:=List.length_pos_iff.2 hm
 rcases hv with hv|⟨b,off,cs,rfl,q1,q2,q3,q4⟩
 . obtain ⟨v',h',p1,p2,p3,p4,p5⟩:=Sx.Fm.AbQ (bytes:=32) (lo:=h.nx) hv hw.src hw.Rv (by omega) (Ab9 m) he.lo
   refine ⟨v',h',p1,?_,.inl ?_,p2.lo⟩
   . obtain ⟨k,hk,hg⟩:=he
     exact ⟨k,hk,p3 _ (Nat.le_refl _) hg⟩
   . rw [NdO,List.length_append,List.flatMap_append]
     exact p4
 . obtain ⟨v',h',p1,p2,p3⟩:=Ahy (bytes:=32) (et:=32) (lo:=h.nx) q1 q2 q3 hw.src hw.Rv (by omega) (Ab9 m) hp he.lo
   refine ⟨v',h',p1,he.gr p2,.inl ?_,p2.lo⟩
   rw [NdO,List.length_append,List.flatMap_append]
   exact p3
theorem Ut {tk:Nat} {vl:AV} {h hc:H} {v:AV} {l:List Nd} (x:Nd) (he:Sx.TG tk vl h hc) (hv:Oo h.nx hc v l) (hl:l.length<=900):
 ∃v' h',Ds 32 3 32 v (.sl hc.nx 0 1 1 3 true) (hc.new (.cells (Bw x) 32 .exact))=.ok v' h'/\Sx.TG tk vl h h'/\Oo h.nx h' v' (l++[x])/\hc.nx<=h'.nx:=by
 obtain ⟨v',h',p1,p2,p3,p4⟩:=Z8 (m:=[x]) (he.new (.cells (Bw x) 32 .exact)) (hv.gr ((Sx.Ai.refl hc).new _)) (Sx.Sl.lit (h:=hc) (Sx.Bf _) rfl rfl) (by simp) (by simp;omega)
 exact ⟨v',h',p1,p2,p3,Nat.le_trans (Nat.le_succ _) p4⟩
theorem Wl {lo:Nat} {h h1:H} (l:List Nd) (n:Nat) (hn:n=l.length) (hg:h1.m.get h.nx=.cells (l.flatMap Bw) 32 .exact) (hx:h1.nx=h.nx+1) (Kf:lo<=h.nx):Oo lo h1 (.sl h.nx 0 n n 3 true) l:=by
 subst hn
 have h5:=Sx.Aa9 (f:=Bw) (s:=3) (λ_=>rfl) l
 refine .inr ⟨h.nx,0,_,rfl,⟨by omega,32,.exact,hg,trivial⟩,by omega,?_,Kf⟩
 rw [List.drop_zero,List.take_of_length_le (by omega)]
def Se (b:Bool) (sz lo:Nat) (r:AV) (h1:H):Prop:=∃t:Tr,Ty b t/\size t<=sz/\Oo lo h1 r t.nodes
def Sd:Nat->Nat
 |0=>3
 |d+1=>3 * Sd d+1
def R80 (d:Nat):Prop:=∀(tk:Nat) (vl:AV) (L:List Int) (cv:AV) (A1:List Cl) (m:Int) (h:H),(d:Int)=m->H9 tk vl L h->Hu tk h cv A1->A1≠[]->A1.length<=30->Sx.D6 tk vl h (Se false (Sd d) h.nx) (ctx.call 80 [.ptr tk 0,cv,.int .i64 m] h)
def R41 (d:Nat):Prop:=∀(tk:Nat) (vl:AV) (L:List Int) (cv:AV) (A1:List Cl) (m:Int) (h:H),(d:Int)=m->H9 tk vl L h->Hu tk h cv A1->A1≠[]->A1.length<=30->Sx.D6 tk vl h (Se true (Sd d) h.nx) (ctx.call 41 [.ptr tk 0,cv,.int .i64 m] h)
end Go.Proofs
