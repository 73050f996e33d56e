/- Columns that numbers select. -/
import Derived.Test.YtecikbfimlolcaaGreatDoorEvQc
import Derived.Test.YtecikbfimlolcaaGreatDoorEvRfb
set_option maxRecDepth 100000
set_option linter.unusedSimpArgs false
set_option linter.unusedVariables false
noncomputable section
namespace Go.Proofs
open Go Go.Ev Go.Nm
attribute [local irreducible] Aa Al Af Ad
variable (ctx:Ac) (N:Nat)
def Below (k:Int) (r:AV) (_:H):Prop:=∃j:Int,r=.int .i64 j/\0<=j/\(j<k\/j=0)
def R78:Prop:=∀(n k:Int) (h:H),1<=k->k<=9223372036854775807->Sx.Ah h (Below k) (ctx.call 78 [.int .i64 n,.int .i64 k] h)
theorem r78 (n k:Int) (h:H) (hk:1<=k) (Z0:k<=9223372036854775807):Sx.Ah h (Below k) (Ay Tryz.prog ctx N true 78 [.int .i64 n,.int .i64 k] h):=by
 rw [e78]
 have h1:=Int.lt_tmod_of_pos n (show 0<k by omega)
 have h2:=Int.tmod_lt_of_pos n (show 0<k by omega)
 repeat' (first|with_reducible (first|apply A7|apply A8|apply A9|apply Ba)|(with_reducible (first|apply Cy|apply Cz|apply C0|apply C1);(conv=>lhs;simp (disch:=first|exact dA|fail) [lw, *]);with_reducible (first|apply A7|apply A8|apply A9|apply Ba|apply Cu|(refine Cv (by simp) ?_)|(apply Cw<;>intro hc<;>(try simp only [Bt] at hc)<;>(try (exfalso;omega)))))|(with_reducible (first|apply C2|apply C3|apply C4|apply C5)<;>intro hc<;>(try simp only [Bt] at hc)<;>(try (exfalso;omega))))
 . refine zr (Sx.Ai.refl _) ⟨_,rfl,?_,.inl ?_⟩<;>omega
 . refine zr (Sx.Ai.refl _) ⟨_,rfl,?_,.inl ?_⟩<;>omega
def R38:Prop:=∀(tk:Nat) (vl:AV) (L:List Int) (k:Int) (h:H),Sx.H8 h tk vl->Sx.R0 1 (λn:Int=>[.int .i64 n]) h vl L->Sx.Av tk vl->(L.length:Int)<=9223372036854775807->k<=9223372036854775807 ->
 Sx.D6 tk vl h (Below k) (ctx.call 38 [.ptr tk 0,.int .i64 k] h)
theorem r38 (h78:R78 ctx) (tk:Nat) (vl:AV) (L:List Int) (k:Int) (h:H) (ht:Sx.H8 h tk vl) (hv:Sx.R0 1 (λn:Int=>[.int .i64 n]) h vl L) (ha:Sx.Av tk vl) (hl:(L.length:Int)<=9223372036854775807) (hk:k<=9223372036854775807):
 Sx.D6 tk vl h (Below k) (Ay Tryz.prog ctx N false 38 [.ptr tk 0,.int .i64 k] h):=by
 refine Sx.Qk ?_
 rw [e38]
 have B6:=ht.lt
 obtain ⟨m,hm,hc⟩:=ht.cell
 have hlen:∀hh,Fo vl hh=.ok (.int .i64 (L.length:Int)) hh:=λ_=>hv.Gs
 obtain ⟨ov1,ov2⟩:=B2 hv
 cases k1:decide ((L.length:Int)<=m)
 . have hmi:((m.toNat:Nat):Int)=m:=Int.toNat_of_nonneg hm
   have hm2:m<(L.length:Int):=by
    have:=of_decide_eq_false k1
    omega
   have hi:m.toNat<L.length:=by omega
   cases k2:decide (k<1)
   . have hk1:1<=k:=by
      have:=of_decide_eq_false k2
      omega
     have hg:Sx.TG tk vl h (h.put tk (Sx.tkC vl (m+1))):=(Sx.TG.refl ht).put _ (by omega)
     have hv2:=hv.tg ht ha hg
     obtain ⟨b,o,el⟩:=Sx.R0.elem (f:=λn:Int=>[AV.int .i64 n]) (s:=1) (λ_=>rfl) hv2 (List.getElem?_eq_getElem hi)
     have x1:=el.ia
     rw [hmi] at x1
     have x2:=el.part 0 _ rfl
     rw [Nat.add_zero] at x2
     generalize L[m.toNat]=e at x2
     clear hv hv2 el hmi hi
     repeat' (first|with_reducible (first|apply A7|apply A8|apply A9|apply Ba)|((with_reducible (first|apply zc1|apply zc2));exact h78 _ _ _ hk1 hk;intro vv hh ee E8 Bu qq;(first|(have eqt:=Sx.Ai.quiet ee;try simp only [C9] at E8 Bu eqt)|(try simp only [C9] at E8 Bu));skip)|(with_reducible (first|apply Cy|apply Cz|apply C0|apply C1);(conv=>lhs;simp (disch:=first|exact dA|fail) [lw, *,k1,k2]);with_reducible (first|apply A7|apply A8|apply A9|apply Ba|apply Cu|(refine Cv (by simp) ?_)|(apply Cw<;>intro hc<;>(try simp only [Bt] at hc)<;>(try (exfalso;omega)))))|(with_reducible (first|apply Kl|apply Km);(conv=>lhs;simp only [zw,k1,k2]))|(with_reducible (first|apply C2|apply C3|apply C4|apply C5)<;>intro hc<;>(try simp only [Bt] at hc)<;>(try (exfalso;omega)))|(refine Sx.B8 ?_ ?_;(focus (simp (disch:=first|decide|omega|(simp only [C9];omega)) [Sx.Aw,Sx.Am,Sx.Ar,Sx.Ax, *];done));(try simp (disch:=first|exact Ce|fail) only [Sx.Aw,Sx.Am,Sx.Bx,Sx.Ap,Sx.At,List.nil_append,List.cons_append,Sx.B9,Sx.Dp,Sx.Dn,C9,Sx.Ca, *])))
     . exact zr (Sx.Ed _) ⟨hg.gr (Sx.Ai.Be (h2:=h.put tk (Sx.tkC vl (m+1))) Ex (Sx.Ai.refl _)),by assumption⟩
   . repeat' (first|with_reducible (first|apply A7|apply A8|apply A9|apply Ba)|(with_reducible (first|apply Cy|apply Cz|apply C0|apply C1);(conv=>lhs;simp (disch:=first|exact dA|fail) [lw, *,k1,k2]);with_reducible (first|apply A7|apply A8|apply A9|apply Ba|apply Cu|(refine Cv (by simp) ?_)|(apply Cw<;>intro hc<;>(try simp only [Bt] at hc)<;>(try (exfalso;omega)))))|(with_reducible (first|apply Kl|apply Km);(conv=>lhs;simp only [zw,k1,k2]))|(with_reducible (first|apply C2|apply C3|apply C4|apply C5)<;>intro hc<;>(try simp only [Bt] at hc)<;>(try (exfalso;omega)))|(refine Sx.B8 ?_ ?_;(focus (simp (disch:=first|decide|omega|(simp only [C9];omega)) [Sx.Aw,Sx.Am,Sx.Ar,Sx.Ax, *];done));(try simp (disch:=first|exact Ce|fail) only [Sx.Aw,Sx.Am,Sx.Bx,Sx.Ap,Sx.At,List.nil_append,List.cons_append,Sx.B9,Sx.Dp,Sx.Dn,C9,Sx.Ca, *])))
     exact zr (Sx.Ed _) ⟨(Sx.TG.refl ht).gr Ex,_,rfl,Int.le_refl _,.inr rfl⟩
 . repeat' (first|with_reducible (first|apply A7|apply A8|apply A9|apply Ba)|(with_reducible (first|apply Cy|apply Cz|apply C0|apply C1);(conv=>lhs;simp (disch:=first|exact dA|fail) [lw, *,k1]);with_reducible (first|apply A7|apply A8|apply A9|apply Ba|apply Cu|(refine Cv (by simp) ?_)|(apply Cw<;>intro hc<;>(try simp only [Bt] at hc)<;>(try (exfalso;omega)))))|(with_reducible (first|apply Kl|apply Km);(conv=>lhs;simp only [zw,k1]))|(with_reducible (first|apply C2|apply C3|apply C4|apply C5)<;>intro hc<;>(try simp only [Bt] at hc)<;>(try (exfalso;omega)))|(refine Sx.B8 ?_ ?_;(focus (simp (disch:=first|decide|omega|(simp only [C9];omega)) [Sx.Aw,Sx.Am,Sx.Ar,Sx.Ax, *];done));(try simp (disch:=first|exact Ce|fail) only [Sx.Aw,Sx.Am,Sx.Bx,Sx.Ap,Sx.At,List.nil_append,List.cons_append,Sx.B9,Sx.Dp,Sx.Dn,C9,Sx.Ca, *])))
   exact zr (Sx.Ed _) ⟨(Sx.TG.refl ht).gr Ex,_,rfl,Int.le_refl _,.inr rfl⟩
abbrev Aeb (s:List Nat):List AV:=[.str s]
theorem Ama:∀l:List (List Nat),Bm (l.flatMap Aeb)=true
 |[]=>rfl
 |x::l=>by
  have ih:=Ama l
  simp [ih]
abbrev WsS (h:H) (v:AV) (l:List (List Nat)):Prop:=Sx.R0 1 Aeb h v l
def Axa:Prop:=∀(l:List (List Nat)) (v:AV) (h:H),WsS h v l->l.length<=10000000->Sx.Ah h (λr h1=>WsS h1 r l/\W7 1 h.nx r/\Ge r=true/\cellsOf r=some [r]) (ctx.call 134 [v] h)
theorem A9Y (l:List (List Nat)) (v:AV) (h:H) (hv:WsS h v l) (hl:l.length<=10000000):Sx.Ah h (λr h1=>WsS h1 r l/\W7 1 h.nx r/\Ge r=true/\cellsOf r=some [r]) (Ay Tryz.prog ctx N true 134 [v] h):=by
 rw [A7A]
 obtain ⟨w,h',q1,q2,q3⟩:=cp (bytes:=16) (et:=9) (lo:=h.nx) (by omega) hv (Ama l) (Nat.le_refl _)
 refine Sx.Ey (v:=.sl h.nx 0 0 0 1 true) (h:=h.new (.cells [] 9 .exact)) rfl ?_
 exact Sx.Ey q1 (Sx.Lo q2 ⟨q3.sl,W7.own q3,B2 q3.sl⟩)
def Apn (n lo:Nat) (r:AV) (h1:H):Prop:=∃ws:List (List Nat),ws.length=n/\WsS h1 r ws/\W7 1 lo r/\Ge r=true/\cellsOf r=some [r]/\(∀w∈ws,w≠[])/\∀b off len cap z ex,r=.sl b off len cap z ex->B5 (h1.m.get b)=none
theorem Aas {h h1:H} (ws:List (List Nat)) (n:Nat) (hn:ws.length=n) (Hr:∀w∈ws,w≠[]) (hg:h1.m.get h.nx=.cells (ws.flatMap Aeb) 9 .exact) (hx:h1.nx=h.nx+1):Apn n h.nx (.sl h.nx 0 n n 1 true) h1:=by
 subst hn
 refine ⟨ws,rfl,Sx.Sl.lit hg hx (Sx.Aa9 (f:=Aeb) (s:=1) (λ_=>rfl) ws),λb off len cap z ex hv h0=>?_,rfl,rfl,Hr,λb off len cap z ex hv=>?_⟩
 . cases hv
   exact Nat.le_refl _
 . cases hv
   rw [hg]
   rfl
theorem Acg {s len i b o:Nat} {h:H} {v:AV} {c l:List AV} (hs:Sx.Sl s h v len c) (hi:i<len) (e:Sx.AsU s h v i l b o):∃off cap ex,v=.sl b off len cap s ex:=by
 rcases hs with ⟨h1,_⟩|⟨b',off,cap,ex,cs,rfl,q2,q3,q4,q5⟩
 . omega
 . have h2:=e.ia h
   rw [Sx.Agr s b' off len cap s ex i hi] at h2
   cases h2
   exact ⟨off,cap,ex,rfl⟩
def R82:Prop:=∀(k:Int) (h:H),Sx.Ah h (Apn (if k=0 then 4 else 5) h.nx) (ctx.call 82 [.int .i64 k] h)
theorem r82 (k:Int) (h:H):Sx.Ah h (Apn (if k=0 then 4 else 5) h.nx) (Ay Tryz.prog ctx N true 82 [.int .i64 k] h):=by
 rw [e82]
 by_cases h0:k=0
 . subst h0
   repeat' (first|with_reducible (first|apply A7|apply A8|apply A9|apply Ba)|(with_reducible (first|apply Cy|apply Cz|apply C0|apply C1);(conv=>lhs;simp (disch:=first|exact dA|fail) [lw, *]);with_reducible (first|apply A7|apply A8|apply A9|apply Ba|apply Cu|(refine Cv (by simp) ?_)|(apply Cw<;>intro hc<;>(try simp only [Bt] at hc)<;>(try (exfalso;omega)))))|(with_reducible (first|apply C2|apply C3|apply C4|apply C5)<;>intro hc<;>(try simp only [Bt] at hc)<;>(try (exfalso;omega))))
   exact zr Ex (Aas [[112,101,111,112,108,101],[118,105,115,105,116,115],[112,108,97,99,101,115],[110,111,116,101,115]] 4 rfl (by simp) (by simp) rfl)
 . rw [if_neg h0]
   by_cases h1:k=1
   . subst h1
     repeat' (first|with_reducible (first|apply A7|apply A8|apply A9|apply Ba)|(with_reducible (first|apply Cy|apply Cz|apply C0|apply C1);(conv=>lhs;simp (disch:=first|exact dA|fail) [lw, *]);with_reducible (first|apply A7|apply A8|apply A9|apply Ba|apply Cu|(refine Cv (by simp) ?_)|(apply Cw<;>intro hc<;>(try simp only [Bt] at hc)<;>(try (exfalso;omega)))))|(with_reducible (first|apply C2|apply C3|apply C4|apply C5)<;>intro hc<;>(try simp only [Bt] at hc)<;>(try (exfalso;omega))))
     exact zr Ex (Aas [[97,103,101],[99,111,108,111,117,114],[104,101,105,103,104,116],[112,108,97,99,101],[115,99,111,114,101]] 5 rfl (by simp) (by simp) rfl)
   . repeat' (first|with_reducible (first|apply A7|apply A8|apply A9|apply Ba)|(with_reducible (first|apply Cy|apply Cz|apply C0|apply C1);(conv=>lhs;simp (disch:=first|exact dA|fail) [lw, *]);with_reducible (first|apply A7|apply A8|apply A9|apply Ba|apply Cu|(refine Cv (by simp) ?_)|(apply Cw<;>intro hc<;>(try simp only [Bt] at hc)<;>(try (exfalso;omega)))))|(with_reducible (first|apply C2|apply C3|apply C4|apply C5)<;>intro hc<;>(try simp only [Bt] at hc)<;>(try (exfalso;omega))))
     exact zr Ex (Aas [[114,101,100],[103,114,101,101,110],[98,108,117,101],[103,114,101,121],[112,105,110,107]] 5 rfl (by simp) (by simp) rfl)
def AbH (lo:Nat) (name:List Nat) (r:AV) (h1:H):Prop:=∃(a b:Int) (w:AV) (ws:List (List Nat)),r=.agg [.str name,.int .i64 a,.int .i64 b,w]/\ws.length<=5/\WsS h1 w ws/\W7 1 lo w/\Ge w=true/\cellsOf w=some [w]
abbrev Lf (h:H) (v:AV) (L:List Int):Prop:=Sx.R0 1 (λn:Int=>[.int .i64 n]) h v L
structure H9 (tk:Nat) (vl:AV) (L:List Int) (h:H):Prop where
 at':Sx.H8 h tk vl
 ints:Lf h vl L
 av:Sx.Av tk vl
 len:(L.length:Int)<=9223372036854775807
theorem H9.tg {tk:Nat} {vl:AV} {L:List Int} {h h1:H} (hi:H9 tk vl L h) (e:Sx.TG tk vl h h1):H9 tk vl L h1:=⟨e.at hi.at'.lt,hi.ints.tg hi.at' hi.av e,hi.av,hi.len⟩
theorem AiD:∀(l:List (List Nat)) (u:Nat),(l.flatMap Aeb).take (u * 1)=(l.take u).flatMap Aeb
 |[],u=>by simp
 |a::l,0=>by simp
 |a::l,u+1=>by
  have ih:=AiD l u
  simp only [Nat.mul_one] at ih ⊢
  simp [ih]
theorem Sl.To {s lo c len:Nat} {h:H} {v:AV} {cs l:List AV} {e1:TypeId} (hs:Sx.Sl s h v len cs) (hb:W7 s lo v) (hc:c<lo) (hg:Vu l.length (h.m.get c)=true):Sx.Sl s (h.put c (.cells l e1 .exact)) v len cs:=by
 obtain ⟨l0,e0,hg,hl⟩:=Pb hg
 refine Sl.AnO hs hg hl λh0 b off n cap z ex hv=>?_
 rcases hs with ⟨_,_,h1⟩|⟨b',Yk,Ll,ex',bs,h1,q2,_⟩
 . rw [h1] at hv;cases hv
 . have h2:=hb b off n cap z ex hv
   rw [h1] at hv
   cases hv
   have:=h2 h0
   omega
def R81:Prop:=∀(tk:Nat) (vl:AV) (L:List Int) (name:List Nat) (h:H),H9 tk vl L h->Sx.D6 tk vl h (AbH h.nx name) (ctx.call 81 [.ptr tk 0,.str name] h)
theorem r81 (Fg:R38 ctx) (h82:R82 ctx) (Ayg:Axa ctx) (tk:Nat) (vl:AV) (L:List Int) (name:List Nat) (h:H) (hi:H9 tk vl L h):Sx.D6 tk vl h (AbH h.nx name) (Ay Tryz.prog ctx N false 81 [.ptr tk 0,.str name] h):=by
 refine Sx.Qk ?_
 rw [e81]
 have ht:=hi.at'
 have B6:=ht.lt
 have hT:∀(k:Int) (hc:H),Sx.TG tk vl h hc->k<=9223372036854775807->Sx.D6 tk vl hc (Below k) (ctx.call 38 [.ptr tk 0,.int .i64 k] hc):=λk hc e hk=>
  Fg tk vl L k hc (hi.tg e).at' (hi.tg e).ints hi.av hi.len hk
 clear hi Fg
 repeat' (first|with_reducible (first|apply A7|apply A8|apply A9|apply Ba)|((with_reducible apply Sx.M5);exact hT _ _ Sx.L5 (by omega);intro vv hh ee E8 Bu qq;(try simp only [C9] at E8 Bu);obtain ⟨jj,rfl,j0,j1⟩:=qq)|((with_reducible (first|apply zc1|apply zc2));exact h82 _ _;intro vv hh ee E8 Bu qq;(try simp only [C9] at E8 Bu);obtain ⟨ws,wn,wh,wb,w1,w2,wne,wcl⟩:=qq)|(with_reducible (first|apply Cy|apply Cz|apply C0|apply C1);(conv=>lhs;simp (disch:=first|exact dA|fail) [lw, *]);with_reducible (first|apply A7|apply A8|apply A9|apply Ba|apply Cu|(refine Cv (by simp) ?_)|(apply Cw<;>intro hc<;>(try simp only [Bt] at hc)<;>(try (exfalso;omega)))))|(with_reducible (first|apply C2|apply C3|apply C4|apply C5)<;>intro hc<;>(try simp only [Bt] at hc)<;>(try (exfalso;omega))))
 . obtain ⟨u,hu⟩:∃u:Nat,(u:Int)=1+jj:=⟨(1+jj).toNat,by omega⟩
   have wh2:WsS _ vv ws:=Sx.Sl.tg wh (Sx.TG.at (h:=h) Sx.L5 B6) (λb off len cap z ex hv h0=>by have:=wb b off len cap z ex hv h0;omega) ee
   simp at wn
   obtain ⟨v',q1,q2⟩:=Sx.Sl.hiS (P:=Tryz.prog) (t:=94) (e:=9) (bytes:=16) (u:=u) (by kernel_rfl) wh2 (by omega)
   rw [hu] at q1
   rw [AiD] at q2
   have hlu:(ws.take u).length=u:=by rw [List.length_take];omega
   have hq:WsS hh v' (ws.take u):=by rw [show WsS hh v' (ws.take u)=Sx.Sl 1 hh v' (ws.take u).length ((ws.take u).flatMap Aeb) from rfl,hlu];exact q2
   clear q2 wh wh2
   repeat' (first|with_reducible (first|apply A7|apply A8|apply A9|apply Ba)|((with_reducible (first|apply zc1|apply zc2));exact Ayg (ws.take u) v' _ hq (by omega);intro vv hh ee E8 Bu qq;(try simp only [C9] at E8 Bu);obtain ⟨vh,vb,w3,w4⟩:=qq;have vn:=λhx=>Sx.Sl.Gs (h1:=hx) vh)|(with_reducible (first|apply Cy|apply Cz|apply C0|apply C1);(conv=>lhs;simp (disch:=first|exact dA|fail) [lw, *,q1]);with_reducible (first|apply A7|apply A8|apply A9|apply Ba|apply Cu|(refine Cv (by simp) ?_)|(apply Cw<;>intro hc<;>(try simp only [Bt] at hc)<;>(try (exfalso;omega)))))|(with_reducible (first|apply C2|apply C3|apply C4|apply C5)<;>intro hc<;>(try simp only [Bt] at hc)<;>(try (exfalso;omega))))
   refine zr (Sx.Ed _) ⟨Sx.L5,_,_,_,ws.take u,rfl,by omega,?_,?_,w3,w4⟩
   . exact Sl.To (Sl.To (Sl.To vh vb Ce N4) vb Ce N4) vb Ce N4
   . intro b off len cap z ex hv h0
     have:=vb b off len cap z ex hv h0
     omega
 . refine Sx.Pu tk h.nx ?_ λLz hLz=>?_
   . simp only [List.forall_mem_cons,List.not_mem_nil,false_imp_iff,implies_true,and_true]
     repeat' (refine And.intro ?_ ?_)
     all_goals first|(left;simp;done)|(refine .inr ⟨λx hx=>?_,?_⟩;(focus first|exact .inl (Sx.TG.wrote (by assumption) x hx)|(refine .inr ?_;have hz:=(Sx.D4 _ _ _ hx).1;simp at hz;omega));(repeat' (refine And.intro ?_ ?_));all_goals first|(exact Sx.Ar ..)|(refine Sx.Ax _ _ _ _ _ _ _ _ _ _ _ _ ?_;decide)|exact Sx.Ci ..|exact Sx.Dk (tk:=tk) (Sx.TG.wrote (by assumption)) Ce (.inr ⟨_,rfl,by omega,by simp [B5]⟩))
   . repeat' (first|with_reducible (first|apply A7|apply A8|apply A9|apply Ba)|(with_reducible (first|apply Cy|apply Cz|apply C0|apply C1);(conv=>lhs;simp (disch:=first|exact dA|fail) [lw, *]);with_reducible (first|apply A7|apply A8|apply A9|apply Ba|apply Cu|(refine Cv (by simp) ?_)|(apply Cw<;>intro hc<;>(try simp only [Bt] at hc)<;>(try (exfalso;omega)))))|(with_reducible (first|apply C2|apply C3|apply C4|apply C5)<;>intro hc<;>(try simp only [Bt] at hc)<;>(try (exfalso;omega))))
     exact zr (Sx.Ed _) ⟨Sx.L5,_,_,.Bv,[],rfl,by simp,.inl ⟨rfl,rfl,rfl⟩,W7.Bv 1 _,rfl,rfl⟩
def R83:Prop:=∀(name:List Nat) (a b:Int) (w:AV) (ws:List (List Nat)) (h:H),WsS h w ws->ws.length<=5->Sx.Ah h (AbH h.nx name) (ctx.call 83 [.agg [.str name,.int .i64 a,.int .i64 b,w]] h)
theorem r83 (Ayg:Axa ctx) (name:List Nat) (a b:Int) (w:AV) (ws:List (List Nat)) (h:H) (hv:WsS h w ws) (hl:ws.length<=5):Sx.Ah h (AbH h.nx name) (Ay Tryz.prog ctx N true 83 [.agg [.str name,.int .i64 a,.int .i64 b,w]] h):=by
 rw [e83]
 obtain ⟨o1,o2⟩:=B2 hv
 repeat' (first|with_reducible (first|apply A7|apply A8|apply A9|apply Ba)|((with_reducible (first|apply zc1|apply zc2));exact Ayg ws w _ (Sx.Sl.By hv M0) (by omega);intro vv hh ee E8 Bu qq;(try simp only [C9] at E8 Bu);obtain ⟨vh,vb,w3,w4⟩:=qq;have vn:=λhx=>Sx.Sl.Gs (h1:=hx) vh)|(with_reducible (first|apply Cy|apply Cz|apply C0|apply C1);(conv=>lhs;simp (disch:=first|exact dA|fail) [lw, *]);with_reducible (first|apply A7|apply A8|apply A9|apply Ba|apply Cu|(refine Cv (by simp) ?_)|(apply Cw<;>intro hc<;>(try simp only [Bt] at hc)<;>(try (exfalso;omega)))))|(with_reducible (first|apply C2|apply C3|apply C4|apply C5)<;>intro hc<;>(try simp only [Bt] at hc)<;>(try (exfalso;omega))))
 refine zr Ex ⟨_,_,_,ws,rfl,hl,?_,?_,w3,w4⟩
 . exact Sl.To (Sl.To vh vb Ce N4) vb Ce N4
 . intro b off len cap z ex hv h0
   have:=vb b off len cap z ex hv h0
   simp only [C9] at this
   omega
end Go.Proofs
