/- Queries that numbers select: Query, whole. -/
import Derived.Test.YtecikbfimlolcaaGreatDoorEvTi
set_option maxRecDepth 100000
set_option linter.unusedSimpArgs false
set_option linter.unusedVariables false
noncomputable section
namespace Go.Proofs
open Go Go.Ev Go.Nm
attribute [local irreducible] Aa Al Af Ad
variable (ctx:Ac) (N:Nat)
theorem AuP {vl sv:AV} {L:List Int} {ss:List Sc} {h:H} (o:AO) (hv:Lf h vl L) (hl:(L.length:Int)<=9223372036854775807) (hS:∀k,h.nx<=k->W9 k h sv ss):SIn (h.nx+1) vl L sv ss h.nx ((h.new o).new (Sx.tkC vl 0)):=by
 have g:Sx.Ai h (h.new o):=(Sx.Ai.refl h).new o
 have g2:Sx.Ai h ((h.new o).new (Sx.tkC vl 0)):=g.new _
 have hcz:∀s∈ss,∀b off len cap z ex,s.cv=.sl b off len cap z ex->0<len->b<h.nx/\∀k,B5 (((h.new o).new (Sx.tkC vl 0)).m.get b)=some k->k<h.nx:=by
  intro s hs b off len cap z ex hv h0
  obtain ⟨q1,q2⟩:=((hS h.nx (Nat.le_refl _)).ok s hs).cz b off len cap z ex hv h0
  refine ⟨q1,λk hk=>q2 k ?_⟩
  rw [<- hk,g2.Cf b q1]
 refine ⟨AkJ (h:=h.new o) (Sx.Sl.By hv g.keeps) hl,Nat.le_succ _,λk hk=>Sl.av hv hk,λk hk=>?_,hcz⟩
 have a:=hS k hk
 refine ⟨a.ne,a.Mu,Sx.Sl.By a.sl g2.keeps,a.av,λs hs=>?_⟩
 have ax:=a.ok s hs
 refine ⟨ax.nn,ax.ne,ax.Mu,ax.A1.By g2.keeps,ax.one,ax.cell,λb off len cap z ex hv h0=>?_⟩
 obtain ⟨q1,q2⟩:=hcz s hs b off len cap z ex hv h0
 exact ⟨by omega,λk hk=>by have:=q2 k hk;omega⟩
def R14:Prop:=∀(vl sv:AV) (L:List Int) (ss:List Sc) (h:H),Lf h vl L->(L.length:Int)<=9223372036854775807->(∀k,h.nx<=k->W9 k h sv ss)->Sx.Ah h AgH (ctx.call 14 [vl,sv] h)
set_option maxHeartbeats 2000000 in
theorem r14 (Fg:R38 ctx) (U9:R39 ctx) (Va:R40 ctx) (We:R41 ctx 3) (h42:R42 ctx) (vl sv:AV) (L:List Int) (ss:List Sc) (h:H) (hv:Lf h vl L) (hl:(L.length:Int)<=9223372036854775807) (hS:∀k,h.nx<=k->W9 k h sv ss):Sx.Ah h AgH (Ay Tryz.prog ctx N false 14 [vl,sv] h):=by
 rw [e14]
 obtain ⟨o1,o2⟩:=B2 hv
 have hss:=(hS _ (Nat.le_refl _)).Mu
 have hsp:0<ss.length:=List.length_pos_iff.2 (hS _ (Nat.le_refl _)).ne
 have hlen:∀hh,Fo sv hh=.ok (.int .i64 (ss.length:Int)) hh:=λ_=>(hS _ (Nat.le_refl _)).sl.Gs
 have S:=AuP (.cells zq 26 .exact) hv hl hS
 have gB:Sx.Ai h ((h.new (.cells zq 26 .exact)).new (Sx.tkC vl 0)):=((Sx.Ai.refl h).new _).new _
 have rB:((h.new (.cells zq 26 .exact)).new (Sx.tkC vl 0)).m.get h.nx=.cells zq 26 .exact:=by
  rw [Sx.Cq (h:=h.new _) _ h.nx (by show h.nx≠h.nx+1;omega)]
  exact Sx.Bf _
 have xB:((h.new (.cells zq 26 .exact)).new (Sx.tkC vl 0)).nx=h.nx+2:=rfl
 repeat' (first|with_reducible (first|apply A7|apply A8|apply A9|apply Ba)|(with_reducible (first|apply Cy|apply Cz|apply C0|apply C1);(conv=>lhs;simp (disch:=first|exact dA|fail) [lw, *]);with_reducible (first|apply A7|apply A8|apply A9|apply Ba|apply Cu|(refine Cv (by simp) ?_)|(apply Cw<;>intro hc<;>(try simp only [Bt] at hc)<;>(try (exfalso;omega)))))|(with_reducible (first|apply C2|apply C3|apply C4|apply C5)<;>intro hc<;>(try simp only [Bt] at hc)<;>(try (exfalso;omega))))
 generalize (h.new (.cells zq 26 .exact)).new (Sx.tkC vl 0)=hB at *
 have hT:∀(k:Int) (hx:H),Sx.TG (h.nx+1) vl hB hx->k<=9223372036854775807->Sx.D6 (h.nx+1) vl hx (Below k) (ctx.call 38 [.ptr (h.nx+1) 0,.int .i64 k] hx):=λk hx e hk=>
  Fg (h.nx+1) vl L k hx (S.hi.tg e).at' (S.hi.tg e).ints S.hi.av S.hi.len hk
 have B6:=S.hi.at'.lt
 refine Sx.M5 (hT _ hB (Sx.TG.refl S.hi.at') (by omega)) λv2 h2 e2 l2 Aae q2=>?_
 obtain ⟨j,rfl,j0,j1⟩:=q2
 have S2:=S.tg e2
 obtain ⟨a,b',o,ha,x1,x2⟩:=Ai6 (S2.all (h.nx+1) (Nat.le_succ _)) j0 (by omega)
 have w1:=((S2.all (h.nx+1) (Nat.le_succ _)).ok a ha).one
 have w2:=((S2.all (h.nx+1) (Nat.le_succ _)).ok a ha).cell
 obtain ⟨an,ap,am,acv,acs⟩:=a
 simp only at w1 w2
 have r2:=(Aae h.nx (by omega) (by omega)).trans rB
 have Cg:∀(hy:H) (q':Qr) (bq b8:Nat) (f:L2),Sx.TG (h.nx+1) vl h2 hy->h2.nx<=bq->bq<hy.nx->hy.m.get bq=.cells (qc q' .Bv .Bv .Bv) 26 .exact->q'.code=[]->q'.ord=[]->q'.E9=[]->q'.Uw=an->hy.m.get b8=.cells (Ze ⟨an,ap,am,acv,acs⟩) 73 .exact->b8<hy.nx->h2.nx<=b8->b8≠bq->Sx.Ah h AgH (Ag6 ctx N sv (.ptr h.nx 0) (.ptr (h.nx+1) 0) (.ptr b8 0) (.ptr bq 0) f hy):=by
  intro hy q' bq b8 f ty z0 z1 gy z2 z3 z4 z5 g8 z6 z7 z8
  have tl:=ty.lo
  exact A9s ctx N Fg U9 Va We h42 (h.nx+1) vl sv L ss bq h.nx b8 hy (Sb ty (Sb e2 gB (Nat.le_succ _)) (Nat.le_succ _)) (S2.tg ty) q' gy (by omega) z1 (by omega) ((ty.Cf h.nx (by omega) (by omega)).trans r2) (Nat.le_refl _) (by omega) (by omega) (by omega) z2 z3 z4 _ ha z5.symm g8 z6 (by omega) z8 f
 replace Cg:=(show F5 _ from Cg)
 have t2:Sx.TG (h.nx+1) vl hB h2:=e2
 have u2:Sx.TG (h.nx+1) vl h2 h2:=Sx.TG.refl S2.hi.at'
 clear S S2 U9 Va We h42 Fg hS hv hl r2 rB gB Aae e2
 repeat' (first|with_reducible (first|apply A7|apply A8|apply A9|apply Ba)|(with_reducible (first|apply Cy|apply Cz|apply C0|apply C1);(conv=>lhs;simp (disch:=first|exact dA|fail) [lw, *,x1,x2]);with_reducible (first|apply A7|apply A8|apply A9|apply Ba|apply Cu|(refine Cv (by simp) ?_)|(apply Cw<;>intro hc<;>(try simp only [Bt] at hc)<;>(try (exfalso;omega)))))|(with_reducible (first|apply C2|apply C3|apply C4|apply C5)<;>intro hc<;>(try simp only [Bt] at hc)<;>(try (exfalso;omega)))|(refine Sx.B8 ?_ ?_;(focus (simp (disch:=first|decide|omega|(simp only [C9];omega)) [Sx.Aw,Sx.Am,Sx.Ar,Sx.Ax, *];done));(try simp (disch:=first|exact Ce|fail) only [Sx.Aw,Sx.Am,Sx.Bx,Sx.Ap,Sx.At,List.nil_append,List.cons_append,Sx.B9,Sx.Dp,Sx.Dn,C9,Sx.Ca, *])))
 refine Sx.M5 (hT 10 _ Sx.L5 (by omega)) λv10 Fh e10 l10 Arw q10=>?_
 obtain ⟨k10,rfl,k11,k12⟩:=q10
 simp only [C9] at l10 Arw
 repeat' (first|with_reducible (first|apply A7|apply A8|apply A9|apply Ba)|(with_reducible (first|apply Cy|apply Cz|apply C0|apply C1);(conv=>lhs;simp (disch:=first|exact dA|fail) [lw, *]);with_reducible (first|apply A7|apply A8|apply A9|apply Ba|apply Cu|(refine Cv (by simp) ?_)|(apply Cw<;>intro hc<;>(try simp only [Bt] at hc)<;>(try (exfalso;omega)))))|(with_reducible (first|apply C2|apply C3|apply C4|apply C5)<;>intro hc<;>(try simp only [Bt] at hc)<;>(try (exfalso;omega)))|(refine Sx.B8 ?_ ?_;(focus (simp (disch:=first|decide|omega|(simp only [C9];omega)) [Sx.Aw,Sx.Am,Sx.Ar,Sx.Ax, *];done));(try simp (disch:=first|exact Ce|fail) only [Sx.Aw,Sx.Am,Sx.Bx,Sx.Ap,Sx.At,List.nil_append,List.cons_append,Sx.B9,Sx.Dp,Sx.Dn,C9,Sx.Ca, *])))
 have A34:Sx.TG (h.nx+1) vl hB Fh:=Sx.L5
 have k8:Fh.m.get h2.nx=.cells (Ze ⟨an,ap,am,acv,acs⟩) 73 .exact:=(Arw h2.nx (by omega) (by omega)).trans (Sx.A2 ..)
 refine Sx.M5 (hT 5 _ Sx.L5 (by omega)) λD5 Mt e15 l15 Aik q15=>?_
 obtain ⟨k15,rfl,k16,k17⟩:=q15
 have Aq5:Sx.R0 1 (λs:List Nat=>[AV.str s]) ((Ab Fh).new (.cells [.str [50],.str [51,47,50],.str [49,49,47,49,48],.str [51],.str [49,48,49,47,49,48,48]] 24 .exact)) (.sl Fh.nx 0 5 5 1 true) [[50],[51,47,50],[49,49,47,49,48],[51],[49,48,49,47,49,48,48]]:=Sx.Sl.lit (h:=Ab Fh) (Sx.Bf _) rfl rfl
 have AeA:=Sx.Sl.tg Aq5 ((A34.nl.new _).at B6) (λb off len cap z ex hv h0=>by cases hv;omega) e15
 have X4:((k15.toNat:Nat):Int)=k15:=Int.toNat_of_nonneg k16
 obtain ⟨fs,hn⟩:∃n,[[50],[51,47,50],[49,49,47,49,48],[51],[49,48,49,47,49,48,48]][k15.toNat]?=some n:=⟨_,List.getElem?_eq_getElem (by simp;omega)⟩
 obtain ⟨b5,o5,el⟩:=Sx.R0.elem (f:=λs:List Nat=>[AV.str s]) (s:=1) (λ_=>rfl) AeA hn
 obtain ⟨_,_,_,hv5⟩:=Acg AeA (by simp;omega) el
 obtain rfl:Fh.nx=b5:=by cases hv5;rfl
 have x3:=el.ia
 rw [X4] at x3
 have x4:=el.part 0 _ rfl
 rw [Nat.add_zero] at x4
 have c5:B5 (Mt.m.get Fh.nx)=none:=by
  simp only [C9] at Aik
  rw [Aik Fh.nx (by omega) (by omega)]
  exact congrArg B5 (Sx.Bf (h:=Ab Fh) _)
 clear el Aq5 AeA hn hv5
 simp only [C9] at l15 Aik
 repeat' (first|with_reducible (first|apply A7|apply A8|apply A9|apply Ba)|(with_reducible (first|apply Cy|apply Cz|apply C0|apply C1);(conv=>lhs;simp (disch:=first|exact dA|fail) [lw, *,x3,x4]);with_reducible (first|apply A7|apply A8|apply A9|apply Ba|apply Cu|(refine Cv (by simp) ?_)|(apply Cw<;>intro hc<;>(try simp only [Bt] at hc)<;>(try (exfalso;omega)))))|(with_reducible (first|apply C2|apply C3|apply C4|apply C5)<;>intro hc<;>(try simp only [Bt] at hc)<;>(try (exfalso;omega)))|(refine Sx.B8 ?_ ?_;(focus (simp (disch:=first|decide|omega|(simp only [C9];omega)) [Sx.Aw,Sx.Am,Sx.Ar,Sx.Ax, *];done));(try simp (disch:=first|exact Ce|fail) only [Sx.Aw,Sx.Am,Sx.Bx,Sx.Ap,Sx.At,List.nil_append,List.cons_append,Sx.B9,Sx.Dp,Sx.Dn,C9,Sx.Ca, *])))
 refine Sx.M5 (hT 12 _ Sx.L5 (by omega)) λHt R1 e18 l18 Arx q18=>?_
 obtain ⟨k18,rfl,k19,k20⟩:=q18
 simp only [C9] at l18 Arx
 repeat' (first|with_reducible (first|apply A7|apply A8|apply A9|apply Ba)|(with_reducible (first|apply Cy|apply Cz|apply C0|apply C1);(conv=>lhs;simp (disch:=first|exact dA|fail) [lw, *]);with_reducible (first|apply A7|apply A8|apply A9|apply Ba|apply Cu|(refine Cv (by simp) ?_)|(apply Cw<;>intro hc<;>(try simp only [Bt] at hc)<;>(try (exfalso;omega)))))|(with_reducible (first|apply C2|apply C3|apply C4|apply C5)<;>intro hc<;>(try simp only [Bt] at hc)<;>(try (exfalso;omega)))|(refine Sx.B8 ?_ ?_;(focus (simp (disch:=first|decide|omega|(simp only [C9];omega)) [Sx.Aw,Sx.Am,Sx.Ar,Sx.Ax, *];done));(try simp (disch:=first|exact Ce|fail) only [Sx.Aw,Sx.Am,Sx.Bx,Sx.Ap,Sx.At,List.nil_append,List.cons_append,Sx.B9,Sx.Dp,Sx.Dn,C9,Sx.Ca, *])))
 refine Sx.Pu (h.nx+1) h2.nx ?_ λLz hLz=>?_
 . simp only [List.forall_mem_cons,List.not_mem_nil,false_imp_iff,implies_true,and_true]
   repeat' (refine And.intro ?_ ?_)
   all_goals first|(left;simp;done)|(left;rfl)|(refine .inr ⟨λx hx=>?_,?_⟩;(focus first|exact .inl (Sx.TG.wrote (by assumption) x hx)|(refine .inr ?_;have hz:=(Sx.D4 _ _ _ hx).1;simp at hz;omega));(repeat' (refine And.intro ?_ ?_));all_goals first|(exact Sx.Ar ..)|(refine Sx.Ax _ _ _ _ _ _ _ _ _ _ _ _ ?_;decide)|exact Sx.Ci ..|exact Sx.Dk (tk:=h.nx+1) (Sx.TG.wrote (by assumption)) Ce (.inl rfl)|exact Sx.Dk (tk:=h.nx+1) (Sx.TG.wrote (by assumption)) Ce (.inr ⟨_,rfl,by omega,congrArg B5 k8⟩)|exact Sx.Dk (tk:=h.nx+1) (Sx.TG.wrote (by assumption)) Ce (.inr ⟨_,rfl,by omega,c5⟩))
 . clear A34
   generalize hE:Be Lz _=hz
   have tz:Sx.TG (h.nx+1) vl h2 hz:=by rw [<- hE];refine Sx.TG.reL ?_ ?_ hLz<;>exact Sx.L5
   have gq:hz.m.get R1.nx=.cells [.int .i64 (1+k10),.Bv,.int .i64 0,.int .i64 0,.int .i64 0,.int .i64 0,.str [],.int .i64 0,.Bv,.int .i64 0,.bool false,.str an,.int .i64 0,.str [],.str [],.str [],.int .i64 0,.Bv,.str fs,.int .i64 (1+k18)] 26 .exact:=by
    rw [<- hE];exact Sx.A2 ..
   have g8:hz.m.get h2.nx=.cells (Ze ⟨an,ap,am,acv,acs⟩) 73 .exact:=by
    rw [<- hE]
    show (H.put _ _ _).m.get _=_
    rw [Sx.Aq _ _ _ (by omega)]
    show (H.new _ _).m.get _=_
    rw [Sx.Cq (h:=Ab R1) _ _ (by show h2.nx≠R1.nx;omega)]
    show R1.m.get _=_
    rw [Arx h2.nx (by omega) (by omega)]
    show Mt.m.get _=_
    rw [Aik h2.nx (by omega) (by omega)]
    show (H.new _ _).m.get _=_
    rw [Sx.Cq (h:=Ab Fh) _ _ (by show h2.nx≠Fh.nx;omega)]
    exact k8
   have xz:hz.nx=R1.nx+1:=by rw [<- hE];rfl
   have tB:=t2.trans tz
   have gt:h2.nx<R1.nx:=by omega
   generalize R1.nx=bq at *
   generalize hb8:h2.nx=b8 at *
   clear hE hLz Arx Aik Arw e10 e15 e18 x3 x4 c5 k8 x1 x2 u2
   have tz0:Sx.TG (h.nx+1) vl hz hz:=Sx.TG.refl (tB.at B6)
   cases ap
   . repeat' (first|with_reducible (first|apply A7|apply A8|apply A9|apply Ba)|((with_reducible apply Sx.M5);exact hT _ _ Sx.L5 (by omega);intro vv hh ee E8 Bu qq;(try simp only [C9] at E8 Bu);obtain ⟨jj,rfl,j0,j1⟩:=qq)|(with_reducible (first|apply Cy|apply Cz|apply C0|apply C1);(conv=>lhs;simp (disch:=first|exact dA|fail) [lw, *,gq,g8]);with_reducible (first|apply A7|apply A8|apply A9|apply Ba|apply Cu|(refine Cv (by simp) ?_)|(apply Cw<;>intro hc<;>(try simp only [Bt] at hc)<;>(try (exfalso;omega)))))|(with_reducible (first|apply Kl|apply Km);(conv=>lhs;simp only [zw,Bool.not_true,Bool.not_false]))|(with_reducible (first|apply C2|apply C3|apply C4|apply C5)<;>intro hc<;>(try simp only [Bt] at hc)<;>(try (exfalso;omega))))
     . have te:Sx.TG (h.nx+1) vl hz hh:=by rename_i hh0 e0 _ _ _ _ _;exact Sx.TG.trans e0 ee
       have ge:hh.m.get b8=.cells (Ze ⟨an,false,am,acv,acs⟩) 73 .exact:=N4
       refine (show ∀(hy:H) (q':Qr) (bq b8:Nat) (f:L2),_ from Cg) _ ⟨_,[],_,_,_,_,_,_,[],_,_,_,_,_,_,_,_,[],_,_⟩ bq b8 _ ((tz.trans te).Aiq bq _ (by omega)) (by omega) (show bq<hh.nx by omega) (Sx.A2 ..) rfl rfl rfl rfl ?_ (show b8<hh.nx by omega) (Nat.le_refl _) (by omega)
       exact (Sx.Aq _ _ _ (by omega)).trans ge
     . have te:Sx.TG (h.nx+1) vl hz hh:=Sx.L5
       have ge:hh.m.get b8=.cells (Ze ⟨an,false,am,acv,acs⟩) 73 .exact:=N4
       exact (show ∀(hy:H) (q':Qr) (bq b8:Nat) (f:L2),_ from Cg) hh ⟨_,[],_,_,_,_,_,_,[],_,_,_,_,_,_,_,_,[],_,_⟩ bq b8 _ (tz.trans te) (by omega) (by omega) ((Bu bq (by omega) (by omega)).trans gq) rfl rfl rfl rfl ge (by omega) (Nat.le_refl _) (by omega)
   . repeat' (first|with_reducible (first|apply A7|apply A8|apply A9|apply Ba)|((with_reducible apply Sx.M5);exact hT _ _ Sx.L5 (by omega);intro vv hh ee E8 Bu qq;(try simp only [C9] at E8 Bu);obtain ⟨jj,rfl,j0,j1⟩:=qq)|(with_reducible (first|apply Cy|apply Cz|apply C0|apply C1);(conv=>lhs;simp (disch:=first|exact dA|fail) [lw, *,gq,g8]);with_reducible (first|apply A7|apply A8|apply A9|apply Ba|apply Cu|(refine Cv (by simp) ?_)|(apply Cw<;>intro hc<;>(try simp only [Bt] at hc)<;>(try (exfalso;omega)))))|(with_reducible (first|apply Kl|apply Km);(conv=>lhs;simp only [zw,Bool.not_true,Bool.not_false]))|(with_reducible (first|apply C2|apply C3|apply C4|apply C5)<;>intro hc<;>(try simp only [Bt] at hc)<;>(try (exfalso;omega))))
     exact (show ∀(hy:H) (q':Qr) (bq b8:Nat) (f:L2),_ from Cg) hz ⟨_,[],_,_,_,_,_,_,[],_,_,_,_,_,_,_,_,[],_,_⟩ bq b8 _ tz (by omega) (by omega) gq rfl rfl rfl rfl g8 (by omega) (Nat.le_refl _) (by omega)
end Go.Proofs
