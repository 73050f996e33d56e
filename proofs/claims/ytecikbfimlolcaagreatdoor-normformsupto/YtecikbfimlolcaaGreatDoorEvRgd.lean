/- Queries: what is written into an answer's lists. NormForms: the loops that spoil an answer's lists. NormForms, walked. -/
import Derived.Test.YtecikbfimlolcaaGreatDoorEvRgc
import Derived.Test.YtecikbfimlolcaaGreatDoorEvQb
set_option maxRecDepth 100000
set_option linter.unusedSimpArgs false
set_option linter.unusedVariables false
namespace Go.Proofs
open Go Go.Ev Go.Nm
theorem xIA_sl' (s b o l c z:Nat) (e:Bool) (n:Nat) (hn:n<l) (h:H):E3 s (.sl b o l c z e) (.int .i64 (n:Int)) h=.ok (.ptr b (o+n * s)) h:=Sx.xIA_sl s b o l c z e n hn
def WrP (s:Nat) (et:TypeId) (lo hi:Nat) (P:List AV->Nat->Prop) (h:H) (v:AV) (len:Nat):Prop:=len=0\/∃ b off cap ex cs k,v=.sl b off len cap s ex/\h.m.get b=.cells cs et k/\off+len * s<=cs.length/\lo<=b/\b<hi/\(k=.exact\/∃ c st,k=.Fz c/\h.m.get c=.ctr st/\lo<=c/\c<hi/\c≠b)/\P cs off
structure Chg (et:TypeId) (lo hi:Nat) (h h':H):Prop where
 nx:h'.nx=h.nx
 old:∀ b,b<lo\/hi<=b->h'.m.get b=h.m.get b
 cel:∀ b cs e k,h.m.get b=.cells cs e k->∃ cs',h'.m.get b=.cells cs' e k/\cs'.length=cs.length/\(e≠et->cs'=cs)
 ctr:∀ b st,h.m.get b=.ctr st->∃ st',h'.m.get b=.ctr st'
 lg:∀ z∈h'.lg,z∈h.lg\/lo<=z
theorem WrP.chg {s lo hi len:Nat} {e et:TypeId} {P:List AV->Nat->Prop} {h h':H} {v:AV} (hw:WrP s e lo hi P h v len) (c:Chg et lo hi h h') (hP:e≠et\/∀ cs off,P cs off):WrP s e lo hi P h' v len:=by
 rcases hw with h1|⟨b,off,cap,ex,cs,k,h1,h2,h3,h4,h5,h6,h7⟩
 . exact .inl h1
 . obtain ⟨cs',q1,q2,q3⟩:=c.cel b cs e k h2
   refine .inr ⟨b,off,cap,ex,cs',k,h1,q1,by omega,h4,h5,?_,?_⟩
   . rcases h6 with h6|⟨c',st,h6,h8,h9⟩
     . exact .inl h6
     . obtain ⟨st',q4⟩:=c.ctr c' st h8
       exact .inr ⟨c',st',h6,q4,h9⟩
   . rcases hP with hP|hP
     . rw [q3 hP];exact h7
     . exact hP _ _
theorem Ai.chg {h0 h h':H} {et:TypeId} {hi:Nat} (g:Sx.Ai h0 h) (c:Chg et h0.nx hi h h'):Sx.Ai h0 h':=
 ⟨by have:=g.lo;have:=c.nx;omega,fun b hb=>by rw [c.old b (.inl hb),g.old b hb],fun z hz=>by
  rcases c.lg z hz with h1|h1
  . exact g.lg z h1
  . exact .inr h1⟩
theorem st_exact {h:H} {b j:Nat} {cs:List AV} {et:TypeId} {n:Int} (hg:h.m.get b=.cells cs et .exact) (hj:j+1<=cs.length):Ao 1 (.ptr b j) (.int .i64 n) h=.ok (.Bl []) (h.put b (.cells (cs.take j++[.int .i64 n]++cs.drop (j+1)) et .exact)):=by
 show resH (wrO (h.m.get b) b j [.int .i64 n] h)=_
 rw [hg]
 show resH (wrL (lput cs [.int .i64 n] j) b et h)=_
 rw [lput_eq,if_pos (by simpa using hj)]
 rfl
theorem st_tip {h:H} {b j c st:Nat} {cs:List AV} {et:TypeId} {n:Int} (hg:h.m.get b=.cells cs et (.Fz c)) (hc:h.m.get c=.ctr st) (hj:j+1<=cs.length):Ao 1 (.ptr b j) (.int .i64 n) h=.ok (.Bl []) ((h.put b (.cells (cs.take j++[.int .i64 n]++cs.drop (j+1)) et (.Fz c))).put c (.ctr (st+1))):=by
 show resH (wrO (h.m.get b) b j [.int .i64 n] h)=_
 rw [hg]
 show resH (wrT (lput cs [.int .i64 n] j) (ctrN (h.m.get c)) c b et h)=_
 rw [lput_eq,if_pos (by simpa using hj),hc]
 rfl
theorem set_len (cs:List AV) (j:Nat) (x:AV) (hj:j+1<=cs.length):(cs.take j++[x]++cs.drop (j+1)).length=cs.length:=by
 simp only [List.length_append,List.length_take,List.length_drop,List.length_cons,List.length_nil]
 omega
theorem WrP.store {s lo hi len:Nat} {et:TypeId} {P:List AV->Nat->Prop} {h:H} {v:AV} (hw:WrP s et lo hi P h v len) {i:Nat} (hi':i<len) (hs:0<s) (n:Int) (hP:∀ cs off,P cs off->off+len * s<=cs.length->P (cs.take (off+i * s)++[.int .i64 n]++cs.drop (off+i * s+1)) off):
 ∃ b o h' cs,(∀ hh,E3 s v (.int .i64 (i:Int)) hh=.ok (.ptr b o) hh)/\(∃ k off,h.m.get b=.cells cs et k/\(k=.exact\/∃ c,k=.Fz c)/\P cs off/\o=off+i * s/\b<hi)/\Ao 1 (.ptr b o) (.int .i64 n) h=.ok (.Bl []) h'/\Chg et lo hi h h'/\WrP s et lo hi P h' v len:=by
 rcases hw with h1|⟨b,off,cap,ex,cs,k,rfl,h2,h3,h4,h5,h6,h7⟩
 . omega
 . have hmul:i * s+s<=len * s:=by
    have:=Nat.mul_le_mul_right s (show i+1<=len from hi')
    rw [Nat.add_mul,Nat.one_mul] at this
    exact this
   have hj:off+i * s+1<=cs.length:=by omega
   have hl:=set_len cs (off+i * s) (.int .i64 n) hj
   have hia:=fun hh=>xIA_sl' s b off len cap s ex i hi' hh
   rcases h6 with rfl|⟨c,st,rfl,h8,h9,h10,h11⟩
   . refine ⟨b,off+i * s,_,cs,hia,⟨.exact,off,h2,.inl rfl,h7,rfl,h5⟩,st_exact h2 hj,⟨rfl,fun b' hb'=>Sx.B0 _ _ _ (by omega),?_,?_,?_⟩,.inr ⟨b,off,cap,ex,_,.exact,rfl,Sx.Fw ..,by omega,h4,h5,.inl rfl,hP cs off h7 h3⟩⟩
     . intro b' cs' e' k' hg
       by_cases hb:b'=b
       . subst hb
         rw [h2] at hg
         cases hg
         exact ⟨_,Sx.Fw ..,hl,fun hh=>absurd rfl hh⟩
       . exact ⟨cs',by rw [Sx.B0 _ _ _ hb];exact hg,rfl,fun _=>rfl⟩
     . intro b' st hg
       have hb:b'≠b:=fun hh=>by subst hh;rw [h2] at hg;cases hg
       exact ⟨st,by rw [Sx.B0 _ _ _ hb];exact hg⟩
     . intro z hz
       rcases List.mem_cons.1 hz with rfl|hz
       . exact .inr h4
       . exact .inl hz
   . have hgb:((h.put b (.cells (cs.take (off+i * s)++[.int .i64 n]++cs.drop (off+i * s+1)) et (.Fz c))).put c (.ctr (st+1))).m.get b=.cells (cs.take (off+i * s)++[.int .i64 n]++cs.drop (off+i * s+1)) et (.Fz c):=by
      rw [Sx.B0 _ _ _ (Ne.symm h11)]
      exact Sx.Fw ..
     refine ⟨b,off+i * s,_,cs,hia,⟨.Fz c,off,h2,.inr ⟨c,rfl⟩,h7,rfl,h5⟩,st_tip h2 h8 hj,⟨rfl,fun b' hb'=>?_,?_,?_,?_⟩,.inr ⟨b,off,cap,ex,_,.Fz c,rfl,hgb,by omega,h4,h5,.inr ⟨c,st+1,rfl,Sx.Fw ..,h9,h10,h11⟩,hP cs off h7 h3⟩⟩
     . rw [Sx.B0 _ _ _ (by omega),Sx.B0 _ _ _ (by omega)]
     . intro b' cs' e' k' hg
       by_cases hb:b'=b
       . subst hb
         rw [h2] at hg
         cases hg
         exact ⟨_,hgb,hl,fun hh=>absurd rfl hh⟩
       . have hc:b'≠c:=fun hh=>by subst hh;rw [h8] at hg;cases hg
         exact ⟨cs',by rw [Sx.B0 _ _ _ hc,Sx.B0 _ _ _ hb];exact hg,rfl,fun _=>rfl⟩
     . intro b' st' hg
       have hb:b'≠b:=fun hh=>by subst hh;rw [h2] at hg;cases hg
       by_cases hc:b'=c
       . subst hc
         exact ⟨_,Sx.Fw ..⟩
       . exact ⟨st',by rw [Sx.B0 _ _ _ hc,Sx.B0 _ _ _ hb];exact hg⟩
     . intro z hz
       rcases List.mem_cons.1 hz with rfl|hz
       . exact .inr h9
       . rcases List.mem_cons.1 hz with rfl|hz
         . exact .inr h4
         . exact .inl hz
end Go.Proofs
namespace Go.Proofs
open Go Go.Ev Go.Nm
attribute [local irreducible] Aa Aj Ah Ac
variable (ctx:Ae) (N:Nat)
def Any (_:List AV) (_:Nat):Prop:=True
def AllI (n:Nat) (cs:List AV) (off:Nat):Prop:=∀ j,j<n->∃ m,cs[off+j * 2]?=some (.int .i64 m)
structure LI (h0 H1:H) (hi b4:Nat) (q:Qr) (w1 wo w3:AV) (n1 no n3:Nat) (h:H):Prop where
 gr:Sx.Ai H1 (Ab h)
 g0:Sx.Ai h0 h
 h01:h0.nx<=H1.nx
 bx:h.m.get b4=.cells (qc q w1 wo w3) 26 .exact
 a1:WrP 3 32 H1.nx hi Any h w1 n1
 a3:WrP 3 32 H1.nx hi Any h w3 n3
 ao:WrP 2 33 H1.nx hi (AllI no) h wo no
 hb:hi<=b4
 hb2:b4<h.nx
theorem Ai.chg0 {h0 h h':H} {et:TypeId} {lo hi:Nat} (g:Sx.Ai h0 h) (c:Chg et lo hi h h') (hl:h0.nx<=lo):Sx.Ai h0 h':=
 ⟨by have:=g.lo;have:=c.nx;omega,fun b hb=>by rw [c.old b (.inl (by omega)),g.old b hb],fun z hz=>by
  rcases c.lg z hz with h1|h1
  . exact g.lg z h1
  . exact .inr (by omega)⟩
theorem Ai.chgN {H1 h h':H} {et:TypeId} {hi:Nat} (g:Sx.Ai H1 (Ab h)) (c:Chg et H1.nx hi h h'):Sx.Ai H1 (Ab h'):=
 ⟨by have h1:H1.nx<=h.nx:=g.lo;have h2:=c.nx;show H1.nx<=h'.nx;omega,fun b hb=>(c.old b (.inl hb)).trans (g.old b hb),fun z hz=>by cases hz⟩
theorem LI.chg {h0 H1 h h':H} {hi b4 n1 no n3:Nat} {q:Qr} {w1 wo w3:AV} (l:LI h0 H1 hi b4 q w1 wo w3 n1 no n3 h) (c:Chg 32 H1.nx hi h h'):LI h0 H1 hi b4 q w1 wo w3 n1 no n3 h':=
 ⟨Ai.chgN l.gr c,Ai.chg0 l.g0 c l.h01,l.h01,by rw [c.old b4 (.inr l.hb)];exact l.bx,l.a1.chg c (.inr fun _ _=>trivial),l.a3.chg c (.inr fun _ _=>trivial),l.ao.chg c (.inl (by decide)),l.hb,by rw [c.nx];exact l.hb2⟩
theorem LI.ld {h0 H1 h:H} {hi b4 n1 no n3:Nat} {q:Qr} {w1 wo w3:AV} (l:LI h0 H1 hi b4 q w1 wo w3 n1 no n3 h) (j:Nat) (x:AV) (hx:(qc q w1 wo w3)[j]?=some x):Ad (some none) (.ptr b4 (0+j)) h=.ok x h:=
 Sx.Cont.one (h:=h) ⟨l.hb2,26,.exact,l.bx,trivial⟩ (by rw [Nat.zero_add];exact hx) h (Sx.A9.refl h)
theorem loop3a {h0 H1:H} {hi b4 n1 no n3:Nat} {q:Qr} {w1 wo w3 t1 t3 t6:AV} {Q:AV->H->Prop} (hlen:∀ hh,Ft w1 hh=.ok (.int .i64 (n1:Int)) hh) (hsm:n1<=3000)
 (hK:∀ (h:H) (f:L2),LI h0 H1 hi b4 q w1 wo w3 n1 no n3 h->Sx.Af h0 Q (L3x2 ctx N N t1 t3 (.ptr b4 0) t6 (.int .i64 0) f h)):
 ∀ (k i n:Nat) (h:H) (f0:L2),i+k=n1->k<n->LI h0 H1 hi b4 q w1 wo w3 n1 no n3 h->Sx.Af h0 Q (L3x1 ctx N n t1 t3 (.ptr b4 0) t6 (.int .i64 (i:Int)) f0 h):=by
 intro k
 induction k with
 |zero=>
  intro i n h f0 hi' hn l
  obtain ⟨n,rfl⟩:∃ m,n=m+1:=⟨n - 1,by omega⟩
  have hin:i=n1:=by omega
  subst hin
  have hbx:=l.bx
  have hK':=hK h
  replace hK:=(show Dl _ from hK)
  replace hK':=(show Dl _ from hK')
  have l':=l
  replace l:=(show Dl _ from l)
  rw [L3x1s]
  repeat' (first|with_reducible (first|apply A3|apply A4|apply A5|apply A6)|(with_reducible (first|apply Cq|apply Cr|apply Cs|apply Ct);(conv=>lhs;simp (disch:=first|exact dA|fail) [lw, *]);with_reducible (first|apply A3|apply A4|apply A5|apply A6|apply Cn|(refine Co (by simp) ?_)|(apply Cp<;>intro hc<;>(try simp only [Ar] at hc)<;>(try (exfalso;omega)))))|(with_reducible (first|apply Cu|apply Cv|apply Cw|apply Cx)<;>intro hc<;>(try simp only [Ar] at hc)<;>(try (exfalso;omega))))
  exact (show ∀ f:L2,_->_ from hK') _ l'
 |succ k ih=>
  intro i n h f0 hi' hn l
  obtain ⟨n,rfl⟩:∃ m,n=m+1:=⟨n - 1,by omega⟩
  have hlt:(i:Int)<(n1:Int):=by omega
  have hbx:=l.bx
  obtain ⟨b,o,h',cs,q1,-,q3,q4,-⟩:=l.a1.store (i:=i) (by omega) (by omega) 0 (fun _ _ _ _=>trivial)
  have l2:=l.chg q4
  have hld:=l.ld 1 w1 rfl
  have ih':=ih (i+1) n h'
  replace ih':=(show Dl _ from ih')
  replace hK:=(show Dl _ from hK)
  clear ih l q4
  replace l2:=(show Dl _ from l2)
  have q3':Ao 1 (.ptr b o) (.int .i64 0) h=.ok (.Bl []) h':=q3
  clear q3
  have hcast:Al Tryz.prog .add 3 true (.int .i64 (i:Int)) (.int .i64 1) h'=.ok (.int .i64 ((i+1:Nat):Int)) h':=by
   rw [Sx.xBin_add,Sx.Cg _ (by omega) (by omega)]
   rfl
  have ld:Ad (some none) (.ptr b4 (0+1)) h=.ok w1 h:=hld
  rw [L3x1s]
  refine Sx.B8 (Sx.Cz ..) ?_
  refine Sx.B8 ld ?_
  refine Sx.B8 (hlen _) ?_
  refine Sx.B8 (Sx.Fa ..) ?_
  rw [decide_eq_true hlt]
  refine Sx.gv_cond_t ?_
  refine Sx.B8 (Sx.Cz ..) ?_
  refine Sx.B8 ld ?_
  refine Sx.B8 (q1 _) ?_
  refine Sx.B8 (Sx.Cz ..) ?_
  refine Sx.B8 q3' ?_
  refine Sx.B8 hcast ?_
  exact (show ∀ f:L2,_->_->_->_ from ih') _ (by omega) (by omega) l2
theorem loop3b {h0 H1:H} {hi b4 n1 no n3:Nat} {q:Qr} {w1 wo w3 t1 t3 t6:AV} {Q:AV->H->Prop} (hlen:∀ hh,Ft w3 hh=.ok (.int .i64 (n3:Int)) hh) (hsm:n3<=3000)
 (hK:∀ (h:H) (f:L2),LI h0 H1 hi b4 q w1 wo w3 n1 no n3 h->Sx.Af h0 Q (L3x3 ctx N N t1 t3 (.ptr b4 0) t6 (.int .i64 0) f h)):
 ∀ (k i n:Nat) (h:H) (f0:L2),i+k=n3->k<n->LI h0 H1 hi b4 q w1 wo w3 n1 no n3 h->Sx.Af h0 Q (L3x2 ctx N n t1 t3 (.ptr b4 0) t6 (.int .i64 (i:Int)) f0 h):=by
 intro k
 induction k with
 |zero=>
  intro i n h f0 hi' hn l
  obtain ⟨n,rfl⟩:∃ m,n=m+1:=⟨n - 1,by omega⟩
  have hin:i=n3:=by omega
  subst hin
  have hbx:=l.bx
  have hK':=hK h
  replace hK:=(show Dl _ from hK)
  replace hK':=(show Dl _ from hK')
  have l':=l
  replace l:=(show Dl _ from l)
  rw [L3x2s]
  repeat' (first|with_reducible (first|apply A3|apply A4|apply A5|apply A6)|(with_reducible (first|apply Cq|apply Cr|apply Cs|apply Ct);(conv=>lhs;simp (disch:=first|exact dA|fail) [lw, *]);with_reducible (first|apply A3|apply A4|apply A5|apply A6|apply Cn|(refine Co (by simp) ?_)|(apply Cp<;>intro hc<;>(try simp only [Ar] at hc)<;>(try (exfalso;omega)))))|(with_reducible (first|apply Cu|apply Cv|apply Cw|apply Cx)<;>intro hc<;>(try simp only [Ar] at hc)<;>(try (exfalso;omega))))
  exact (show ∀ f:L2,_->_ from hK') _ l'
 |succ k ih=>
  intro i n h f0 hi' hn l
  obtain ⟨n,rfl⟩:∃ m,n=m+1:=⟨n - 1,by omega⟩
  have hlt:(i:Int)<(n3:Int):=by omega
  have hbx:=l.bx
  obtain ⟨b,o,h',cs,q1,-,q3,q4,-⟩:=l.a3.store (i:=i) (by omega) (by omega) 0 (fun _ _ _ _=>trivial)
  have l2:=l.chg q4
  have hld:=l.ld 17 w3 rfl
  have ih':=ih (i+1) n h'
  replace ih':=(show Dl _ from ih')
  replace hK:=(show Dl _ from hK)
  clear ih l q4
  replace l2:=(show Dl _ from l2)
  have q3':Ao 1 (.ptr b o) (.int .i64 0) h=.ok (.Bl []) h':=q3
  clear q3
  have hcast:Al Tryz.prog .add 3 true (.int .i64 (i:Int)) (.int .i64 1) h'=.ok (.int .i64 ((i+1:Nat):Int)) h':=by
   rw [Sx.xBin_add,Sx.Cg _ (by omega) (by omega)]
   rfl
  have ld:Ad (some none) (.ptr b4 (0+17)) h=.ok w3 h:=hld
  rw [L3x2s]
  refine Sx.B8 (Sx.Cz ..) ?_
  refine Sx.B8 ld ?_
  refine Sx.B8 (hlen _) ?_
  refine Sx.B8 (Sx.Fa ..) ?_
  rw [decide_eq_true hlt]
  refine Sx.gv_cond_t ?_
  refine Sx.B8 (Sx.Cz ..) ?_
  refine Sx.B8 ld ?_
  refine Sx.B8 (q1 _) ?_
  refine Sx.B8 (Sx.Cz ..) ?_
  refine Sx.B8 q3' ?_
  refine Sx.B8 hcast ?_
  exact (show ∀ f:L2,_->_->_->_ from ih') _ (by omega) (by omega) l2
theorem gv_drL {h0 hF:H} {Q:AV->H->Prop} {efs:List EF} {lg:List Nat} {k:H->OR} (he:effOk efs=true) (h2:∀ e∈efs,e.w=[]\/∃ n,e.w=wrote n hF.lg) (hk:∀ L,(∀ z∈L,z∈lg\/z∈hF.lg)->Sx.Af h0 Q (k (Ap L hF))):Sx.Af h0 Q (F4 lg efs hF k):=by
 rw [Sx.drEnd_ok he]
 refine hk _ ?_
 clear he hk
 induction efs with
 |nil=>exact fun z hz=>.inl hz
 |cons e es ih=>
  intro z hz
  rw [Sx.A8] at hz
  rcases List.mem_append.1 hz with hz|hz
  . rcases h2 e (List.mem_cons_self ..) with h3|⟨n,h3⟩
    . rw [h3] at hz;cases hz
    . rw [h3] at hz
      exact .inr (Cc n z _ hz)
  . exact ih (fun e he=>h2 e (List.mem_cons_of_mem _ he)) z hz
theorem set_eq (cs:List AV) (p:Nat) (x:AV) (hp:p<cs.length):cs.take p++[x]++cs.drop (p+1)=cs.set p x:=by
 rw [List.set_eq_take_append_cons_drop,if_pos hp,List.append_assoc]
 rfl
theorem AllI.set {n i off:Nat} {cs:List AV} {m:Int} (ha:AllI n cs off) (hi:i<n) (hl:off+n * 2<=cs.length):AllI n (cs.take (off+i * 2)++[.int .i64 m]++cs.drop (off+i * 2+1)) off:=by
 rw [set_eq _ _ _ (by omega)]
 intro j hj
 by_cases h:j=i
 . subst h
   exact ⟨m,by rw [List.getElem?_set_self (by omega)]⟩
 . obtain ⟨m',hm⟩:=ha j hj
   exact ⟨m',by rw [List.getElem?_set_ne (by omega)];exact hm⟩
theorem WrP.int {lo hi n:Nat} {h:H} {v:AV} (hw:WrP 2 33 lo hi (AllI n) h v n) {i:Nat} (hi':i<n) (hh:hi<=h.nx):∃ b o m,(∀ h1,E3 2 v (.int .i64 (i:Int)) h1=.ok (.ptr b o) h1)/\(∀ h1,Sx.A9 h h1->Ad (some none) (.ptr b o) h1=.ok (.int .i64 m) h1):=by
 rcases hw with h1|⟨b,off,cap,ex,cs,k,rfl,h2,h3,h4,h5,h6,h7⟩
 . omega
 . obtain ⟨m,hm⟩:=h7 i hi'
   refine ⟨b,off+i * 2,m,fun hh=>xIA_sl' 2 b off n cap 2 ex i hi' hh,Sx.Cont.one (h:=h) ⟨by omega,33,k,h2,?_⟩ hm⟩
   rcases h6 with rfl|⟨c,st,rfl,_⟩
   . trivial
   . trivial
theorem ia_arr (b o:Nat) (h:H):xIAa 2 1 (.ptr b o) (.int .i64 0) h=.ok (.ptr b o) h:=rfl
theorem loop3c {h0 H1:H} {hi b4 n1 no n3:Nat} {q:Qr} {w1 wo w3 t1 t3 t6:AV} {Q:AV->H->Prop} (hlen:∀ hh,Ft wo hh=.ok (.int .i64 (no:Int)) hh) (hsm:no<=3000)
 (hK:∀ (n:Nat) (h:H) (f:L2),LI h0 H1 hi b4 q w1 wo w3 n1 no n3 h->Sx.Af h0 Q (L3x3 ctx N (n+1) t1 t3 (.ptr b4 0) t6 (.int .i64 (no:Int)) f h)):
 ∀ (k i n:Nat) (h:H) (f0:L2),i+k=no->k<n->LI h0 H1 hi b4 q w1 wo w3 n1 no n3 h->Sx.Af h0 Q (L3x3 ctx N n t1 t3 (.ptr b4 0) t6 (.int .i64 (i:Int)) f0 h):=by
 intro k
 induction k with
 |zero=>
  intro i n h f0 hi' hn l
  obtain ⟨n,rfl⟩:∃ m,n=m+1:=⟨n - 1,by omega⟩
  have hin:i=no:=by omega
  subst hin
  exact hK n h f0 l
 |succ k ih=>
  intro i n h f0 hi' hn l
  obtain ⟨n,rfl⟩:∃ m,n=m+1:=⟨n - 1,by omega⟩
  have hlt:(i:Int)<(no:Int):=by omega
  have hld:=l.ld 8 wo rfl
  have hld2:Ad (some none) (.ptr b4 (0+8)) (Ab h)=.ok wo (Ab h):=Sx.Cont.one (h:=h) ⟨l.hb2,26,.exact,l.bx,trivial⟩ rfl (Ab h) (Sx.A9.refl h).nl
  obtain ⟨b,o,m,p1,p2⟩:=l.ao.int (i:=i) (by omega) (by have:=l.hb;have:=l.hb2;omega)
  obtain ⟨b',o',h',cs,q1,-,q3,q4,q5⟩:=WrP.store (h:=Ab h) (show WrP 2 33 H1.nx hi (AllI no) (Ab h) wo no from l.ao) (i:=i) (by omega) (by omega) (Ga .i64 (m+1)) (fun cs off ha hl=>ha.set (by omega) hl)
  have hbo:=(p1 h).symm.trans (q1 h)
  injection hbo with hbo _
  injection hbo with hb ho
  subst hb ho
  have p2':=p2 (Ab h) (Sx.A9.refl h).nl
  have hcast:∀ hh,Al Tryz.prog .add 3 true (.int .i64 (i:Int)) (.int .i64 1) hh=.ok (.int .i64 ((i+1:Nat):Int)) hh:=fun hh=>by
   rw [Sx.xBin_add,Sx.Cg _ (by omega) (by omega)]
   rfl
  rw [L3x3s]
  refine Sx.B8 (Sx.Cz ..) ?_
  refine Sx.B8 hld ?_
  refine Sx.B8 (hlen _) ?_
  refine Sx.B8 (Sx.Fa ..) ?_
  rw [decide_eq_true hlt]
  refine Sx.gv_cond_t ?_
  refine Sx.B8 (Sx.Cz ..) ?_
  refine Sx.B8 hld2 ?_
  refine Sx.B8 (p1 _) ?_
  refine Sx.B8 (ia_arr ..) ?_
  refine Sx.B8 p2' ?_
  refine Sx.B8 (Sx.xBin_add ..) ?_
  refine Sx.B8 (p1 _) ?_
  refine Sx.B8 (ia_arr ..) ?_
  refine Sx.B8 q3 ?_
  refine gv_drL (effOk_all _ fun e he=>?_) ?_ fun L hL=>?_
  . simp only [List.mem_cons,List.not_mem_nil,or_false] at he
    rcases he with rfl|rfl|rfl|rfl|rfl|rfl|rfl|rfl|rfl|rfl
    all_goals first|exact .inl rfl|exact .inr (by simp (disch:=decide) only [Sx.Ek,Sx.E4,Sx.Fv,Sx.Br,Sx.B4,Bool.and_self])
  . intro e he
    simp only [List.mem_cons,List.not_mem_nil,or_false] at he
    rcases he with rfl|rfl|rfl|rfl|rfl|rfl|rfl|rfl|rfl|rfl
    all_goals first|exact .inl rfl|exact .inr ⟨_,rfl⟩
  . refine Sx.B8 (hcast _) ?_
    have hgr:Sx.Ai H1 (Ab (Ab h)):=l.gr
    have hg2:=Ai.chgN hgr q4
    have hg3:=Ai.chg0 l.g0.nl q4 l.h01
    have h01:=l.h01
    have l2:LI h0 H1 hi b4 q w1 wo w3 n1 no n3 (Ap L h'):=by
     refine ⟨⟨hg2.lo,hg2.old,fun z hz=>by cases hz⟩,⟨hg3.lo,hg3.old,fun z hz=>?_⟩,l.h01,?_,(show WrP 3 32 H1.nx hi Any h' w1 n1 from WrP.chg (show WrP 3 32 H1.nx hi Any (Ab h) w1 n1 from l.a1) q4 (.inr fun _ _=>trivial)),(show WrP 3 32 H1.nx hi Any h' w3 n3 from WrP.chg (show WrP 3 32 H1.nx hi Any (Ab h) w3 n3 from l.a3) q4 (.inr fun _ _=>trivial)),q5,l.hb,?_⟩
     . rcases hL z hz with h9|h9
       . exact l.g0.lg z h9
       . rcases q4.lg z h9 with h8|h8
         . cases h8
         . exact .inr (by omega)
     . exact (q4.old b4 (.inr l.hb)).trans l.bx
     . show b4<h'.nx
       rw [q4.nx]
       exact l.hb2
    exact ih (i+1) n _ _ (by omega) (by omega) l2
end Go.Proofs
namespace Go.Proofs
open Go Go.Ev Go.Nm
attribute [local irreducible] Aa Aj Ah Ac
variable (ctx:Ae) (N:Nat)
def R8 (h0:H):Prop:=∀ h:H,Sx.Ai h0 h->Sx.Af h (fun r _=>r=.bool true) (ctx.call 8 [] h)
def R7t:Prop:=∀ (q:Qr) (vc vo vm:AV) (h:H),Txt q->QV h q vc vo vm->q.code.length<=1000000->q.mat.length<=1000000->Sx.Af h (LOut q) (ctx.call 7 [.agg (qc q vc vo vm)] h)
theorem ok_at:∀ (l:List (Int × Int)) (j:Nat),j<l.length->∃ m,(l.flatMap okC)[j * 2]?=some (.int .i64 m)
 |x::l,0,_=>⟨x.1,rfl⟩
 |x::l,j+1,h=>by
  obtain ⟨m,hm⟩:=ok_at l j (by simpa using h)
  refine ⟨m,?_⟩
  rw [List.flatMap_cons,Nat.add_mul,Nat.one_mul]
  exact hm
theorem WrP.ofN {lo len:Nat} {h h1:H} {v:AV} {c:List AV} (hs:Safe 3 lo h v len c) (e:Sx.Ai h h1):WrP 3 32 lo h.nx Any h1 v len:=by
 rcases hs.wr with h0|⟨b,off,cap,ex,cs,k,h1',h2,h3,h4,h5,h6⟩
 . exact .inl h0
 . refine .inr ⟨b,off,cap,ex,cs,k,h1',by rw [e.old b h5];exact h2,h3,h4,h5,?_,trivial⟩
   rcases h6 with h6|⟨c,st,h6,h7,h8,h9,h10⟩
   . exact .inl h6
   . exact .inr ⟨c,st,h6,by rw [e.old c h9];exact h7,h8,h9,h10⟩
theorem WrP.ofO {lo:Nat} {h h1:H} {v:AV} {l:List (Int × Int)} (hs:FrO lo h v l) (e:Sx.Ai h h1):WrP 2 33 lo h.nx (AllI l.length) h1 v l.length:=by
 rcases hs.wr with h0|⟨b,off,cap,ex,cs,k,h1',h2,h3,h4,h5,h6⟩
 . exact .inl h0
 . refine .inr ⟨b,off,cap,ex,cs,k,h1',by rw [e.old b h5];exact h2,h3,h4,h5,?_,?_⟩
   . rcases h6 with h6|⟨c,st,h6,h7,h8,h9,h10⟩
     . exact .inl h6
     . exact .inr ⟨c,st,h6,by rw [e.old c h9];exact h7,h8,h9,h10⟩
   . rcases hs.sl with ⟨q0,_,q1⟩|⟨b',off',cap',ex',bs,q1,q2,q3,q4,q5⟩
     . rw [h1'] at q1;cases q1
     . rw [h1'] at q1
       cases q1
       obtain ⟨e',k',q6,q7⟩:=q3.cells
       rw [h2] at q6
       cases q6
       intro j hj
       obtain ⟨m,hm⟩:=ok_at l j hj
       refine ⟨m,?_⟩
       rw [<- q5,List.getElem?_take,if_pos (by omega),List.getElem?_drop] at hm
       exact hm
set_option maxHeartbeats 1000000 in
theorem fin3 (h12:R12 ctx) {h0 h:H} (h8:R8 ctx h0) {p1 p7 b4 no n:Nat} {q q':Qr} {vc vo vm bc bo bm w1 wo w3:AV} (f0:L2) (he:Sx.Ai h0 h) (hg1:h.m.get p1=.cells (qc q vc vo vm) 26 .exact) (hg7:h.m.get p7=.cells (qc q bc bo bm) 26 .exact) (hg4:h.m.get b4=.cells (qc q' w1 wo w3) 26 .exact) (hq1:QV h q vc vo vm) (hq7:QV h q bc bo bm) (hl1:q.code.length<=3000) (hl2:q.ord.length<=3000) (hl3:q.mat.length<=3000) (hlen:∀ hh,Ft wo hh=.ok (.int .i64 (no:Int)) hh):
 Sx.Af h0 (fun r _=>r=.bool true) (L3x3 ctx N (n+1) (.ptr p1 0) (.ptr p7 0) (.ptr b4 0) (.bool true) (.int .i64 (no:Int)) f0 h):=by
 obtain ⟨a1,a2⟩:=Bc hq1.c
 obtain ⟨a3,a4⟩:=Bc hq1.o
 obtain ⟨a5,a6⟩:=Bc hq1.m
 obtain ⟨c1,c2⟩:=Bc hq7.c
 obtain ⟨c3,c4⟩:=Bc hq7.o
 obtain ⟨c5,c6⟩:=Bc hq7.m
 have h12':=h12 q vc vo vm bc bo bm h hq1 hq7 hl1 hl2 hl3
 have hno:¬ (no:Int)<(no:Int):=by omega
 replace h12':=(show Dl _ from h12')
 clear hq1 hq7
 rw [L3x3s]
 repeat' (first|with_reducible (first|apply A3|apply A4|apply A5|apply A6)|(with_reducible (first|apply Cq|apply Cr|apply Cs|apply Ct);(conv=>lhs;simp (disch:=first|exact dA|fail) [lw, *,hno]);with_reducible (first|apply A3|apply A4|apply A5|apply A6|apply Cn|(refine Co (by simp) ?_)|(apply Cp<;>intro hc<;>(try simp only [Ar] at hc)<;>(try (exfalso;omega)))))|(with_reducible (first|apply ze1|apply ze2);(conv=>lhs;simp only [zw,Bool.not_true]))|(with_reducible (first|apply Cu|apply Cv|apply Cw|apply Cx)<;>intro hc<;>(try simp only [Ar] at hc)<;>(try (exfalso;omega))))
 refine Sx.D0 (show Sx.Af h _ _ from h12') fun v18 h18 e18 q18=>?_
 subst q18
 repeat' (first|with_reducible (first|apply A3|apply A4|apply A5|apply A6)|(with_reducible (first|apply Cq|apply Cr|apply Cs|apply Ct);(conv=>lhs;simp (disch:=first|exact dA|fail) [lw, *]);with_reducible (first|apply A3|apply A4|apply A5|apply A6|apply Cn|(refine Co (by simp) ?_)|(apply Cp<;>intro hc<;>(try simp only [Ar] at hc)<;>(try (exfalso;omega)))))|(with_reducible (first|apply ze1|apply ze2);(conv=>lhs;simp only [zw,Bool.not_true]))|(with_reducible (first|apply Cu|apply Cv|apply Cw|apply Cx)<;>intro hc<;>(try simp only [Ar] at hc)<;>(try (exfalso;omega))))
 refine Sx.D0 (h8 _ ?_) fun v20 h20 e20 q20=>?_
 . exact Ak
 subst q20
 repeat' (first|with_reducible (first|apply A3|apply A4|apply A5|apply A6)|(with_reducible (first|apply Cq|apply Cr|apply Cs|apply Ct);(conv=>lhs;simp (disch:=first|exact dA|fail) [lw, *]);with_reducible (first|apply A3|apply A4|apply A5|apply A6|apply Cn|(refine Co (by simp) ?_)|(apply Cp<;>intro hc<;>(try simp only [Ar] at hc)<;>(try (exfalso;omega)))))|(with_reducible (first|apply ze1|apply ze2);(conv=>lhs;simp only [zw,Bool.not_true]))|(with_reducible (first|apply Cu|apply Cv|apply Cw|apply Cx)<;>intro hc<;>(try simp only [Ar] at hc)<;>(try (exfalso;omega))))
 refine Sx.Cj ?_ ?_
 . exact Ak
 . rfl
theorem keepsN (h:H):Sx.A9 (Ab h) h:=⟨Nat.le_refl _,fun b cs hc=>⟨hc.lt,hc.cells⟩⟩
theorem oldPP {h:H} {b:Nat} {o1 o2 o3 o4:AO} {l:List Nat} (hb:b<h.nx):(Ap l ((Ab ((Ab ((Ab ((Ab h).new o1)).new o2)).put h.nx o3)).put (h.nx+1) o4)).m.get b=h.m.get b:=by
 show (((Ab ((Ab ((Ab ((Ab h).new o1)).new o2)).put h.nx o3)).put (h.nx+1) o4)).m.get b=_
 rw [Sx.B0 _ _ _ (by omega)]
 show (((Ab ((Ab ((Ab h).new o1)).new o2)).put h.nx o3)).m.get b=_
 rw [Sx.B0 _ _ _ (by omega)]
 show ((Ab ((Ab h).new o1)).new o2).m.get b=_
 rw [Sx.Gi _ _ (by show b≠h.nx+1;omega)]
 show ((Ab h).new o1).m.get b=_
 rw [Sx.Gi _ _ (by show b≠h.nx;omega)]
 rfl
theorem packC {X h:H} {q:Qr} {vc vo vm:AV} (e:Sx.Ai X h) (qs:QS X.nx h q vc vo vm):∃ Hc,Sx.Ai Hc h/\QS Hc.nx h q vc vo vm/\Dl (Hc=X):=⟨X,e,qs,rfl⟩
set_option maxHeartbeats 4000000 in
theorem r3 (hN:3001<=N) (h7:R7t ctx) (h9:R9 ctx) (h10:R10 ctx) (h11:R11 ctx) (h12:R12 ctx) (hlaw:∀ q,vast q=false->normM q=normQ q/\(normM q).code.length<=3000/\(normM q).mat.length<=3000) (q:Qr) (vc vo vm:AV) (h:H) (h8:R8 ctx h) (ht:Txt q) (hq:QV h q vc vo vm) (hl1:q.code.length<=1000000) (hl3:q.mat.length<=1000000):
 Sx.Af h (fun r _=>r=.bool true) (An Tryz.prog ctx N false 3 [.agg (qc q vc vo vm)] h):=by
 rw [e3]
 have hq0:=hq
 obtain ⟨hc,ho,hm⟩:=hq
 obtain ⟨oc1,oc2⟩:=Bc hc
 obtain ⟨oo1,oo2⟩:=Bc ho
 obtain ⟨om1,om2⟩:=Bc hm
 clear hc ho hm
 have e0:Sx.Ai h (h.new (.cells (qc q vc vo vm) 26 .exact)):=(Sx.Ai.refl h).new _
 have h7':=h7 q vc vo vm _ ht (hq0.B2 e0.keeps) hl1 hl3
 replace hq0:=(show Dl _ from hq0)
 replace h7':=(show Dl _ from h7')
 replace hlaw:=(show Dl _ from hlaw)
 clear e0
 repeat' (first|with_reducible (first|apply A3|apply A4|apply A5|apply A6)|(with_reducible (first|apply Cq|apply Cr|apply Cs|apply Ct);(conv=>lhs;simp (disch:=first|exact dA|fail) [lw, *]);with_reducible (first|apply A3|apply A4|apply A5|apply A6|apply Cn|(refine Co (by simp) ?_)|(apply Cp<;>intro hc<;>(try simp only [Ar] at hc)<;>(try (exfalso;omega)))))|(with_reducible (first|apply Cu|apply Cv|apply Cw|apply Cx)<;>intro hc<;>(try simp only [Ar] at hc)<;>(try (exfalso;omega))))
 refine Sx.D0 (show Sx.Af _ _ _ from h7') fun v3 hA eA qA=>?_
 obtain ⟨b,rfl,hb⟩:=qA
 have eloA:=eA.lo
 have eoldA:=eA.old
 try simp only [Sx.new_nx,Sx.put_nx,Sx.F6,Sx.reLog_nx] at eloA eoldA
 clear h7'
 cases b with
 |true=>
  clear hb
  repeat' (first|with_reducible (first|apply A3|apply A4|apply A5|apply A6)|(with_reducible (first|apply Cq|apply Cr|apply Cs|apply Ct);(conv=>lhs;simp (disch:=first|exact dA|fail) [lw, *]);with_reducible (first|apply A3|apply A4|apply A5|apply A6|apply Cn|(refine Co (by simp) ?_)|(apply Cp<;>intro hc<;>(try simp only [Ar] at hc)<;>(try (exfalso;omega)))))|(with_reducible (first|apply Cu|apply Cv|apply Cw|apply Cx)<;>intro hc<;>(try simp only [Ar] at hc)<;>(try (exfalso;omega))))
  refine Sx.D0 (h8 _ ?_) fun v20 h20 e20 q20=>?_
  . exact Ak
  subst q20
  repeat' (first|with_reducible (first|apply A3|apply A4|apply A5|apply A6)|(with_reducible (first|apply Cq|apply Cr|apply Cs|apply Ct);(conv=>lhs;simp (disch:=first|exact dA|fail) [lw, *]);with_reducible (first|apply A3|apply A4|apply A5|apply A6|apply Cn|(refine Co (by simp) ?_)|(apply Cp<;>intro hc<;>(try simp only [Ar] at hc)<;>(try (exfalso;omega)))))|(with_reducible (first|apply Cu|apply Cv|apply Cw|apply Cx)<;>intro hc<;>(try simp only [Ar] at hc)<;>(try (exfalso;omega))))
  refine Sx.Cj ?_ ?_
  . exact Ak
  . rfl
 |false=>
  have hv:=hb rfl
  clear hb
  obtain ⟨hlw,hw1,hw3⟩:=(show ∀ q,vast q=false->normM q=normQ q/\(normM q).code.length<=3000/\(normM q).mat.length<=3000 from hlaw) q hv
  have hl:q.code.length<=3000/\q.ord.length<=3000/\q.mat.length<=3000:=by
   simp only [vast,Bool.or_eq_false_iff,decide_eq_false_iff_not] at hv
   omega
  obtain ⟨k1,k2,k3⟩:=hl
  have hw2:(normM q).ord.length<=3000:=k2
  clear hv hlaw hl1 hl3
  repeat' (first|with_reducible (first|apply A3|apply A4|apply A5|apply A6)|(with_reducible (first|apply Cq|apply Cr|apply Cs|apply Ct);(conv=>lhs;simp (disch:=first|exact dA|fail) [lw, *]);with_reducible (first|apply A3|apply A4|apply A5|apply A6|apply Cn|(refine Co (by simp) ?_)|(apply Cp<;>intro hc<;>(try simp only [Ar] at hc)<;>(try (exfalso;omega)))))|(with_reducible (first|apply Cu|apply Cv|apply Cw|apply Cx)<;>intro hc<;>(try simp only [Ar] at hc)<;>(try (exfalso;omega))))
  refine Sx.D0 (h9 q vc vo vm _ (QV.B2 (show QV h q vc vo vm from hq0) E5) k1 k2 k3) fun v6 hB eB qB=>?_
  obtain ⟨bc,bo,bm,rfl,qs9⟩:=qB
  have qv9:=qs9.qv
  obtain ⟨pc1,pc2⟩:=Bc qv9.c
  obtain ⟨po1,po2⟩:=Bc qv9.o
  obtain ⟨pm1,pm2⟩:=Bc qv9.m
  have eloB:=eB.lo
  have eoldB:=eB.old
  try simp only [Sx.new_nx,Sx.put_nx,Sx.F6,Sx.reLog_nx] at eloB eoldB
  clear qs9
  replace qv9:=(show Dl _ from qv9)
  repeat' (first|with_reducible (first|apply A3|apply A4|apply A5|apply A6)|(with_reducible (first|apply Cq|apply Cr|apply Cs|apply Ct);(conv=>lhs;simp (disch:=first|exact dA|fail) [lw, *]);with_reducible (first|apply A3|apply A4|apply A5|apply A6|apply Cn|(refine Co (by simp) ?_)|(apply Cp<;>intro hc<;>(try simp only [Ar] at hc)<;>(try (exfalso;omega)))))|(with_reducible (first|apply ze1|apply ze2);(conv=>lhs;simp only [zw,Bool.not_true]))|(with_reducible (first|apply Cu|apply Cv|apply Cw|apply Cx)<;>intro hc<;>(try simp only [Ar] at hc)<;>(try (exfalso;omega))))
  refine Sx.D0 (h10 q vc vo vm _ (QV.B2 (show QV h q vc vo vm from hq0) E5) k1 k2 k3) fun v10 hC eC qC=>?_
  obtain ⟨ac,ao,am,rfl,qs10⟩:=qC
  obtain ⟨rc1,rc2⟩:=Bc qs10.qv.c
  obtain ⟨ro1,ro2⟩:=Bc qs10.qv.o
  obtain ⟨rm1,rm2⟩:=Bc qs10.qv.m
  have eloC:=eC.lo
  have eoldC:=eC.old
  have eqC:=Sx.Ai.quiet eC
  try simp only [Sx.new_nx,Sx.put_nx,Sx.F6,Sx.reLog_nx] at eloC eoldC eqC
  have qv10:=qs10.qv
  obtain ⟨Hc,eHc,qsHc,hHc⟩:=packC eC qs10
  have hHc':=hHc
  unfold Dl at hHc
  have gHc:Sx.Ai h Hc:=by rw [hHc];exact Ak
  have c1:Hc.m.get h.nx=.cells (qc q vc vo vm) 26 .exact:=by rw [hHc];exact Ep
  have c7:Hc.m.get hB.nx=.cells (qc q bc bo bm) 26 .exact:=by rw [hHc];exact Ep
  have cq1:QV Hc q vc vo vm:=QV.B2 (show QV h q vc vo vm from hq0) gHc.keeps
  have cq7:QV Hc q bc bo bm:=by rw [hHc];exact QV.B2 (show QV hB q bc bo bm from qv9) E5
  have cn:h.nx<Hc.nx/\hB.nx<Hc.nx:=by rw [hHc];refine ⟨?_,?_⟩<;>exact Ch
  obtain ⟨cn1,cn2⟩:=cn
  clear qs10 hHc hHc'
  replace qsHc:=(show Dl _ from qsHc)
  replace eHc:=(show Dl _ from eHc)
  replace gHc:=(show Dl _ from gHc)
  replace c1:=(show Dl _ from c1)
  replace c7:=(show Dl _ from c7)
  replace cq1:=(show Dl _ from cq1)
  replace cq7:=(show Dl _ from cq7)
  replace qv10:=(show Dl _ from qv10)
  repeat' (first|with_reducible (first|apply A3|apply A4|apply A5|apply A6)|(with_reducible (first|apply Cq|apply Cr|apply Cs|apply Ct);(conv=>lhs;simp (disch:=first|exact dA|fail) [lw, *]);with_reducible (first|apply A3|apply A4|apply A5|apply A6|apply Cn|(refine Co (by simp) ?_)|(apply Cp<;>intro hc<;>(try simp only [Ar] at hc)<;>(try (exfalso;omega)))))|(with_reducible (first|apply Cu|apply Cv|apply Cw|apply Cx)<;>intro hc<;>(try simp only [Ar] at hc)<;>(try (exfalso;omega))))
  refine Sx.D0 (h11 q bc bo bm _ (QV.B2 (show QV hB q bc bo bm from qv9) E5) k1 k2 k3) fun v12 hD eD qD=>?_
  obtain ⟨rc,ro,rm,rfl,qs11⟩:=qD
  rw [<- hlw] at qs11
  have qv11:=qs11.qv
  obtain ⟨sc1,sc2⟩:=Bc qv11.c
  obtain ⟨so1,so2⟩:=Bc qv11.o
  obtain ⟨sm1,sm2⟩:=Bc qv11.m
  have eloD:=eD.lo
  have eoldD:=eD.old
  have eqD:=Sx.Ai.quiet eD
  try simp only [Sx.new_nx,Sx.put_nx,Sx.F6,Sx.reLog_nx] at eloD eoldD eqD
  clear qs11
  replace qv11:=(show Dl _ from qv11)
  rw [<- hlw]
  clear hlw
  generalize hM:normM q=M at *
  repeat' (first|with_reducible (first|apply A3|apply A4|apply A5|apply A6)|(with_reducible (first|apply Cq|apply Cr|apply Cs|apply Ct);(conv=>lhs;simp (disch:=first|exact dA|fail) [lw, *]);with_reducible (first|apply A3|apply A4|apply A5|apply A6|apply Cn|(refine Co (by simp) ?_)|(apply Cp<;>intro hc<;>(try simp only [Ar] at hc)<;>(try (exfalso;omega)))))|(with_reducible (first|apply Cu|apply Cv|apply Cw|apply Cx)<;>intro hc<;>(try simp only [Ar] at hc)<;>(try (exfalso;omega)))|(refine Sx.Ex ?_ ?_;(focus (simp (disch:=first|decide|omega|(simp only [Bp];omega)) [Sx.B1,Sx.Bb,Sx.Br,Sx.B4, *];done));(try simp (disch:=first|exact Ch|fail) only [Sx.B1,Sx.Bb,Sx.Du,Sx.A8,Sx.Bk,List.nil_append,List.cons_append,Sx.Ey,Sx.put_lg,Sx.new_lg,Bp,Sx.Ez, *])))
  refine Sx.D0 (h12 M ac ao am rc ro rm _ (QV.B2 (show QV hC M ac ao am from qv10) E5) (QV.B2 (show QV hD M rc ro rm from qv11) E5) hw1 hw2 hw3) fun v20 hE eE qE=>?_
  subst qE
  have eloE:=eE.lo
  have eoldE:=eE.old
  try simp only [Sx.new_nx,Sx.put_nx,Sx.F6,Sx.reLog_nx] at eloE eoldE
  have gCE:Sx.Ai hC (Ab hE):=by
   have g1:Sx.Ai hC hD:=eD.ofNoLog.ofNoLog
   have g2:=eE.lo
   refine ⟨?_,fun b hb=>?_,fun z hz=>by cases hz⟩
   . show hC.nx<=hE.nx
     omega
   . show hE.m.get b=hC.m.get b
     rw [eE.old b (by simp only [Sx.new_nx,Sx.put_nx,Sx.F6,Sx.reLog_nx];omega),<- g1.old b hb]
     have hbD:b<hD.nx:=by omega
     exact oldPP hbD
  have g0E:Sx.Ai h hE:=Ak
  have bx:hE.m.get hD.nx=.cells (qc M ac ao am) 26 .exact:=Ep
  have qs:QS Hc.nx hC M ac ao am:=qsHc
  have a1:=WrP.ofN qs.c gCE
  have a3:=WrP.ofN qs.m gCE
  have ao':=WrP.ofO qs.o gCE
  have l:LI h Hc hC.nx hD.nx M ac ao am M.code.length M.ord.length M.mat.length hE:=⟨(show Sx.Ai Hc hC from eHc).trans gCE,g0E,(show Sx.Ai h Hc from gHc).lo,bx,a1,a3,ao',by omega,by omega⟩
  have z1:∀ hh,Ft ac hh=.ok (.int .i64 (M.code.length:Int)) hh:=fun _=>qs.c.sl.lenL
  have z2:∀ hh,Ft ao hh=.ok (.int .i64 (M.ord.length:Int)) hh:=fun _=>qs.o.sl.lenL
  have z3:∀ hh,Ft am hh=.ok (.int .i64 (M.mat.length:Int)) hh:=fun _=>qs.m.sl.lenL
  exact loop3a ctx N z1 hw1 (fun h5 f5 l5=>loop3b ctx N z3 hw3 (fun h6 f6 l6=>loop3c ctx N z2 hw2 (fun n h9 f9 l9=>fin3 ctx N h12 h8 f9 l9.g0 ((l9.gr.old _ cn1).trans c1) ((l9.gr.old _ cn2).trans c7) l9.bx (QV.B2 (QV.B2 cq1 l9.gr.keeps) (keepsN _)) (QV.B2 (QV.B2 cq7 l9.gr.keeps) (keepsN _)) k1 k2 k3 z2) M.ord.length 0 N h6 f6 (by omega) (by omega) l6) M.mat.length 0 N h5 f5 (by omega) (by omega) l5) M.code.length 0 N hE _ (by omega) (by omega) l
end Go.Proofs
