/- Columns that numbers select. -/
import Derived.Test.YtecikbfimlolcaaGreatDoorEvQc
import Derived.Test.YtecikbfimlolcaaGreatDoorEvRa
set_option maxRecDepth 100000
noncomputable section
namespace Go.Proofs
open Go Go.Ev Go.Nm Tryz Go.Ev.Sx
attribute [local irreducible] Aa Al Af Ad
variable (ctx:Ac) (N:Nat)
def Below (k:Int) (r:AV) (_:H):Prop:=∃j:Int,r=.int .i64 j/\0<=j/\(j<k\/j=0)
def R78:Prop:=∀(n k:Int) (h:H),1<=k->k<=9223372036854775807->Ah h (Below k) (ctx.call 78 [.int .i64 n,.int .i64 k] h)
theorem r78 (n k:Int) (h:H) (hk:1<=k) (Z0:k<=9223372036854775807):Ah h (Below k) (Ay prog ctx N true 78 [.int .i64 n,.int .i64 k] h):=by
 rw [e78]
 have h1:=Int.lt_tmod_of_pos n (show 0<k by omega)
 have h2:=Int.tmod_lt_of_pos n (show 0<k by omega)
 repeat' (first|refine wk ?_|(refine zqq ?_ ?_<;>intro hc<;>(try (exfalso;omega)))|fail)
 . refine zr (Ai.refl _) ⟨_,rfl,?_,.inl ?_⟩<;>omega
 . refine zr (Ai.refl _) ⟨_,rfl,?_,.inl ?_⟩<;>omega
def R38:Prop:=∀(tk:Nat) (vl:AV) (L:List Int) (k:Int) (h:H),H8 h tk vl->R0 1 (λn:Int=>[.int .i64 n]) h vl L->Av tk vl->(L.length:Int)<=9223372036854775807->k<=9223372036854775807 ->
 D6 tk vl h (Below k) (ctx.call 38 [.ptr tk 0,.int .i64 k] h)
theorem r38 (h78:R78 ctx) (tk:Nat) (vl:AV) (L:List Int) (k:Int) (h:H) (ht:H8 h tk vl) (hv:R0 1 (λn:Int=>[.int .i64 n]) h vl L) (ha:Av tk vl) (hl:(L.length:Int)<=9223372036854775807) (hk:k<=9223372036854775807):
 D6 tk vl h (Below k) (Ay prog ctx N false 38 [.ptr tk 0,.int .i64 k] h):=by
 refine Qk ?_
 rw [e38]
 have B6:=ht.lt
 obtain ⟨m,hm,hc⟩:=ht.cell
 have hlen:∀hh,Fo vl hh=.ok (.int .i64 (L.length:Int)) hh:=λ_=>hv.Gs
 obtain ⟨ov1,ov2⟩:=B2 hv
 cases k1:decide ((L.length:Int)<=m)
 . have hmi:((m.toNat:Nat):Int)=m:=Int.toNat_of_nonneg hm
   have hm2:m<(L.length:Int):=by
    have:=of_decide_eq_false k1
    omega
   have hi:m.toNat<L.length:=by omega
   cases k2:decide (k<1)
   . have hk1:1<=k:=by
      have:=of_decide_eq_false k2
      omega
     have hg:TG tk vl h (h.put tk (tkC vl (m+1))):=(TG.refl ht).put _ om
     have hv2:=hv.tg ht ha hg
     obtain ⟨b,o,el⟩:=R0.elem (f:=λn:Int=>[AV.int .i64 n]) (s:=1) (λ_=>rfl) hv2 (List.getElem?_eq_getElem hi)
     have x1:=el.ia
     rw [hmi] at x1
     have x2:=el.part 0 _ rfl
     rw [Nat.add_zero] at x2
     generalize L[m.toNat]=e at x2
     clear hv hv2 el hmi hi
     (repeat' (first|refine wd ?_|((with_reducible (first|apply Fj|apply zc2));exact h78 _ _ _ hk1 hk;intro vv hh ee E8 Bu qq;(first|(have eqt:=Ai.quiet ee;try simp only [C9] at E8 Bu eqt)|(try simp only [C9] at E8 Bu));skip)))
     . exact zr (Ed _) ⟨hg.gr (Ai.Be (h2:=h.put tk (tkC vl (m+1))) Ex (Ai.refl _)),by assumption⟩
   . refine wd ?_
     exact zr (Ed _) ⟨(TG.refl ht).gr Ex,_,rfl,Int.le_refl _,.inr rfl⟩
 . refine wd ?_
   exact zr (Ed _) ⟨(TG.refl ht).gr Ex,_,rfl,Int.le_refl _,.inr rfl⟩
abbrev Aeb (s:List Nat):List AV:=[.str s]
theorem Ama:∀l:List (List Nat),Bm (l.flatMap Aeb)=true
 |[]=>rfl
 |x::l=>by
  have ih:=Ama l
  simp [ih]
abbrev Ig (h:H) (v:AV) (l:List (List Nat)):Prop:=R0 1 Aeb h v l
def Axa:Prop:=∀(l:List (List Nat)) (v:AV) (h:H),Ig h v l->l.length<=10000000->Ah h (λr h1=>Ig h1 r l/\W7 1 h.nx r/\Ge r=true/\cellsOf r=some [r]) (ctx.call 134 [v] h)
theorem A9Y (l:List (List Nat)) (v:AV) (h:H) (hv:Ig h v l) (hl:l.length<=10000000):Ah h (λr h1=>Ig h1 r l/\W7 1 h.nx r/\Ge r=true/\cellsOf r=some [r]) (Ay prog ctx N true 134 [v] h):=by
 rw [A7A]
 obtain ⟨w,h',q1,q2,q3⟩:=cp (bytes:=16) (et:=9) (lo:=h.nx) om hv (Ama l) (Nat.le_refl _)
 refine Ey (v:=.sl h.nx 0 0 0 1 true) (h:=h.new (.cells [] 9 .exact)) rfl ?_
 exact Ey q1 (Lo q2 ⟨q3.sl,W7.own q3,B2 q3.sl⟩)
def R2:List (List Nat):=[[112,101,111,112,108,101],[118,105,115,105,116,115],[112,108,97,99,101,115],[110,111,116,101,115]]
def N1:List (List Nat):=[[97,103,101],[99,111,108,111,117,114],[104,101,105,103,104,116],[112,108,97,99,101],[115,99,111,114,101]]
def R9:List (List Nat):=[[114,101,100],[103,114,101,101,110],[98,108,117,101],[103,114,101,121],[112,105,110,107]]
def nmL (k:Int):List (List Nat):=if k=0 then R2 else if k=1 then N1 else R9
def AdD (a b:Int) (ws:List (List Nat)):Prop:=(ws=[]/\-3<=a/\a<=b/\b<=20)\/∃u:Nat,1<=u/\u<=5/\ws=R9.take u/\a=0/\b=(u:Int) - 1
theorem AdD.Mu {a b:Int} {ws:List (List Nat)} (h:AdD a b ws):ws.length<=5:=by
 rcases h with ⟨rfl,_⟩|⟨u,_,h2,rfl,_⟩
 . exact Nat.zero_le _
 . rw [List.length_take]
   omega
def Apn (l:List (List Nat)) (lo:Nat) (r:AV) (h1:H):Prop:=∃ws:List (List Nat),ws=l/\Ig h1 r ws/\W7 1 lo r/\Ge r=true/\cellsOf r=some [r]/\(∀w∈ws,w≠[])/\∀b off len cap z ex,r=.sl b off len cap z ex->B5 (h1.m.get b)=none
theorem Aas {h h1:H} (ws:List (List Nat)) (n:Nat) (hn:ws.length=n) (Hr:∀w∈ws,w≠[]) (hg:h1.m.get h.nx=.cells (ws.flatMap Aeb) 9 .exact) (hx:h1.nx=h.nx+1):Apn ws h.nx (.sl h.nx 0 n n 1 true) h1:=by
 subst hn
 refine ⟨ws,rfl,Sl.lit hg hx (Aa9 (f:=Aeb) (s:=1) (λ_=>rfl) ws),λb off len cap z ex hv h0=>?_,rfl,rfl,Hr,λb off len cap z ex hv=>?_⟩
 . cases hv
   exact Nat.le_refl _
 . cases hv
   rw [hg]
   rfl
theorem Acg {s len i b o:Nat} {h:H} {v:AV} {c l:List AV} (hs:Sl s h v len c) (hi:i<len) (e:AsU s h v i l b o):∃off cap ex,v=.sl b off len cap s ex:=by
 rcases hs with ⟨h1,_⟩|⟨b',off,cap,ex,cs,rfl,q2,q3,q4,q5⟩
 . omega
 . have h2:=e.ia h
   rw [Agr s b' off len cap s ex i hi] at h2
   cases h2
   exact ⟨off,cap,ex,rfl⟩
def R82:Prop:=∀(k:Int) (h:H),Ah h (Apn (nmL k) h.nx) (ctx.call 82 [.int .i64 k] h)
theorem r82 (k:Int) (h:H):Ah h (Apn (nmL k) h.nx) (Ay prog ctx N true 82 [.int .i64 k] h):=by
 rw [e82]
 by_cases h0:k=0
 . subst h0
   refine wk ?_
   exact zr Ex (Aas R2 4 rfl (by decide) (Bf _) rfl)
 . by_cases h1:k=1
   . subst h1
     refine wk ?_
     exact zr Ex (Aas N1 5 rfl (by decide) (Bf _) rfl)
   . rw [show nmL k=R9 by unfold nmL;rw [if_neg h0,if_neg h1]]
     refine wk ?_
     exact zr Ex (Aas R9 5 rfl (by decide) (Bf _) rfl)
def AxQ (lo:Nat) (name:List Nat) (a b:Int) (ws:List (List Nat)) (r:AV) (h1:H):Prop:=∃w:AV,r=.agg [.str name,.int .i64 a,.int .i64 b,w]/\Ig h1 w ws/\W7 1 lo w/\Ge w=true/\cellsOf w=some [w]
def AbH (lo:Nat) (name:List Nat) (r:AV) (h1:H):Prop:=∃(a b:Int) (w:AV) (ws:List (List Nat)),r=.agg [.str name,.int .i64 a,.int .i64 b,w]/\AdD a b ws/\Ig h1 w ws/\W7 1 lo w/\Ge w=true/\cellsOf w=some [w]
abbrev Lf (h:H) (v:AV) (L:List Int):Prop:=R0 1 (λn:Int=>[.int .i64 n]) h v L
structure H9 (tk:Nat) (vl:AV) (L:List Int) (h:H):Prop where
 at':H8 h tk vl
 ints:Lf h vl L
 av:Av tk vl
 len:(L.length:Int)<=9223372036854775807
theorem H9.tg {tk:Nat} {vl:AV} {L:List Int} {h h1:H} (hi:H9 tk vl L h) (e:TG tk vl h h1):H9 tk vl L h1:=⟨e.at hi.at'.lt,hi.ints.tg hi.at' hi.av e,hi.av,hi.len⟩
theorem AiD:∀(l:List (List Nat)) (u:Nat),(l.flatMap Aeb).take (u * 1)=(l.take u).flatMap Aeb
 |[],u=>by simp
 |a::l,0=>by simp
 |a::l,u+1=>by
  have ih:=AiD l u
  simp only [Nat.mul_one] at ih ⊢
  simp [ih]
theorem Sl.To {s lo c len:Nat} {h:H} {v:AV} {cs l:List AV} {e1:TypeId} (hs:Sl s h v len cs) (hb:W7 s lo v) (hc:c<lo) (hg:Vu l.length (h.m.get c)=true):Sl s (h.put c (.cells l e1 .exact)) v len cs:=by
 obtain ⟨l0,e0,hg,hl⟩:=Pb hg
 refine Sl.AnO hs hg hl λh0 b off n cap z ex hv=>?_
 rcases hs with ⟨_,_,h1⟩|⟨b',Yk,Ll,ex',bs,h1,q2,_⟩
 . rw [h1] at hv;cases hv
 . have h2:=hb b off n cap z ex hv
   rw [h1] at hv
   cases hv
   have:=h2 h0
   omega
def R81:Prop:=∀(tk:Nat) (vl:AV) (L:List Int) (name:List Nat) (h:H),H9 tk vl L h->D6 tk vl h (AbH h.nx name) (ctx.call 81 [.ptr tk 0,.str name] h)
theorem r81 (Fg:R38 ctx) (h82:R82 ctx) (Ayg:Axa ctx) (tk:Nat) (vl:AV) (L:List Int) (name:List Nat) (h:H) (hi:H9 tk vl L h):D6 tk vl h (AbH h.nx name) (Ay prog ctx N false 81 [.ptr tk 0,.str name] h):=by
 refine Qk ?_
 rw [e81]
 have ht:=hi.at'
 have B6:=ht.lt
 have hT:∀(k:Int) (hc:H),TG tk vl h hc->k<=9223372036854775807->D6 tk vl hc (Below k) (ctx.call 38 [.ptr tk 0,.int .i64 k] hc):=λk hc e hk=>
  Fg tk vl L k hc (hi.tg e).at' (hi.tg e).ints hi.av hi.len hk
 clear hi Fg
 (repeat' (first|refine wk ?_|((with_reducible apply M5);exact hT _ _ L5 om;intro vv hh ee E8 Bu qq;(try simp only [C9] at E8 Bu);obtain ⟨jj,rfl,j0,j1⟩:=qq)|((with_reducible (first|apply Fj|apply zc2));exact h82 _ _;intro vv hh ee E8 Bu qq;(try simp only [C9] at E8 Bu);obtain ⟨ws,wn,wh,wb,w1,w2,wne,wcl⟩:=qq)|(refine zqq ?_ ?_<;>intro hc<;>(try (exfalso;omega)))|fail))
 . obtain ⟨u,hu⟩:∃u:Nat,(u:Int)=1+jj:=⟨(1+jj).toNat,by omega⟩
   have wh2:Ig _ vv ws:=Sl.tg wh (TG.at (h:=h) L5 B6) (λb off len cap z ex hv h0=>by have:=wb b off len cap z ex hv h0;omega) ee
   have wn5:ws.length=5:=by rw [wn];rfl
   obtain ⟨v',q1,q2⟩:=Sl.hiS (P:=prog) (t:=94) (e:=9) (bytes:=16) (u:=u) (by kernel_rfl) wh2 om
   rw [hu] at q1
   rw [AiD] at q2
   have hlu:(ws.take u).length=u:=by rw [List.length_take];omega
   have hq:Ig hh v' (ws.take u):=by rw [show Ig hh v' (ws.take u)=Sl 1 hh v' (ws.take u).length ((ws.take u).flatMap Aeb) from rfl,hlu];exact q2
   clear q2 wh wh2
   (repeat' (first|refine wk ?_|((with_reducible (first|apply Fj|apply zc2));exact Ayg (ws.take u) v' _ hq om;intro vv hh ee E8 Bu qq;(try simp only [C9] at E8 Bu);obtain ⟨vh,vb,w3,w4⟩:=qq;have vn:=λhx=>Sl.Gs (h1:=hx) vh)))
   have hn5:(nmL 2).length=5:=rfl
   refine zr (Ed _) ⟨L5,_,_,_,ws.take u,rfl,.inr ⟨u,by omega,by omega,by rw [wn];rfl,rfl,by omega⟩,?_,?_,w3,w4⟩
   . exact Sl.To (Sl.To (Sl.To vh vb Ce N4) vb Ce N4) vb Ce N4
   . intro b off len cap z ex hv h0
     have:=vb b off len cap z ex hv h0
     omega
 . refine Pu tk h.nx ?_ λLz Wp=>?_
   . simp only [List.forall_mem_cons,List.not_mem_nil,false_imp_iff,implies_true,and_true]
     repeat' (refine And.intro ?_ ?_)
     all_goals first|(left;simp;done)|(refine .inr ⟨λx hx=>?_,?_⟩;(focus first|exact .inl (TG.wrote (by assumption) x hx)|(refine .inr ?_;have hz:=(D4 _ _ _ hx).1;simp at hz;omega));(repeat' (refine And.intro ?_ ?_));all_goals first|(exact Ar ..)|(refine Ax _ _ _ _ _ _ _ _ _ _ _ _ ?_;decide)|exact Ci ..|exact Dk (tk:=tk) (TG.wrote (by assumption)) Ce (.inr ⟨_,rfl,by omega,by simp [B5]⟩))
   . refine wk ?_
     exact zr (Ed _) ⟨L5,_,_,.Bv,[],rfl,.inl ⟨rfl,by omega,by omega,by omega⟩,.inl ⟨rfl,rfl,rfl⟩,W7.Bv 1 _,rfl,rfl⟩
def R83:Prop:=∀(name:List Nat) (a b:Int) (w:AV) (ws:List (List Nat)) (h:H),Ig h w ws->ws.length<=5->Ah h (AxQ h.nx name a b ws) (ctx.call 83 [.agg [.str name,.int .i64 a,.int .i64 b,w]] h)
theorem r83 (Ayg:Axa ctx) (name:List Nat) (a b:Int) (w:AV) (ws:List (List Nat)) (h:H) (hv:Ig h w ws) (hl:ws.length<=5):Ah h (AxQ h.nx name a b ws) (Ay prog ctx N true 83 [.agg [.str name,.int .i64 a,.int .i64 b,w]] h):=by
 rw [e83]
 obtain ⟨o1,o2⟩:=B2 hv
 (repeat' (first|refine wk ?_|((with_reducible (first|apply Fj|apply zc2));exact Ayg ws w _ (Sl.By hv M0) om;intro vv hh ee E8 Bu qq;(try simp only [C9] at E8 Bu);obtain ⟨vh,vb,w3,w4⟩:=qq;have vn:=λhx=>Sl.Gs (h1:=hx) vh)))
 refine zr Ex ⟨_,rfl,?_,?_,w3,w4⟩
 . exact Sl.To (Sl.To vh vb Ce N4) vb Ce N4
 . intro b off len cap z ex hv h0
   have:=vb b off len cap z ex hv h0
   simp only [C9] at this
   omega
end Go.Proofs
