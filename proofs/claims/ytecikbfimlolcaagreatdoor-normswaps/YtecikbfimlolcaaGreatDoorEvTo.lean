/- NormSwaps walked: the end. -/
import Derived.Test.YtecikbfimlolcaaGreatDoorEvTn
set_option maxRecDepth 100000
set_option linter.unusedSimpArgs false
set_option linter.unusedVariables false
noncomputable section
namespace Go.Proofs
open Go Go.Ev Go.Nm
abbrev C (d:Nat):Ac:=cD PP T27 d
theorem tN {g:FuncId} (q:T27 g=λ_=>none:=by simp [T1,T2,T3,T4,T5,T6,T7,T8,T9,Iq,Ir,Is,I2,I8,Jy,J2,Ol,Ot,O1,Rk,Sa,U4,T23,T24,T25,T26,T27,Bb]):T27 g=λ_=>none:=q
theorem tS {g:FuncId} {S:List AV->Option AV} (q:T27 g=S:=by simp [T1,T2,T3,T4,T5,T6,T7,T8,T9,Iq,Ir,Is,I2,I8,Jy,J2,Ol,Ot,O1,Rk,Sa,U4,T23,T24,T25,T26,T27,Bb]):T27 g=S:=q
theorem upG {g:FuncId} {args:List AV} {h0 h:H} {Q:AV->H->Prop} {q:Bool} {d:Nat} (hT:T27 g=λ_=>none) (hc:Sx.Ah h0 Q (Ay PP (C d) 1048576 q g args h)):Sx.Ah h0 Q ((C (d+1)).call g args h):=by
 rw [cdN hT]
 obtain ⟨v,h1,h2,h3⟩:=hc
 exact ⟨v,h1,Jn (Nat.le_refl _) h2,h3⟩
theorem upT {g:FuncId} {args:List AV} {tk:Nat} {vl:AV} {h:H} {Q:AV->H->Prop} {q:Bool} {d:Nat} (hT:T27 g=λ_=>none) (hc:Sx.D6 tk vl h Q (Ay PP (C d) 1048576 q g args h)):Sx.D6 tk vl h Q ((C (d+1)).call g args h):=by
 obtain ⟨m,hm,hg⟩:=hc
 exact ⟨m,hm,upG hT hg⟩
theorem pr {d k:Nat} (h:k+1<=d):∃e,d=e+1/\k<=e:=⟨d - 1,by omega,by omega⟩
theorem c78 (d:Nat) (hd:1<=d):R78 (C d):=by
 obtain ⟨e,rfl,he⟩:=pr hd
 exact λn k h h1 h2=>upG tN (r78 _ _ n k h h1 h2)
theorem c38 (d:Nat) (hd:2<=d):R38 (C d):=by
 obtain ⟨e,rfl,he⟩:=pr hd
 exact λtk vl L k h h1 h2 h3 h4 h5=>upT tN (r38 _ _ (c78 e he) tk vl L k h h1 h2 h3 h4 h5)
theorem c82 (d:Nat) (hd:1<=d):R82 (C d):=by
 obtain ⟨e,rfl,he⟩:=pr hd
 exact λk h=>upG tN (r82 _ _ k h)
theorem A1Z (d:Nat) (hd:1<=d):Axa (C d):=by
 obtain ⟨e,rfl,he⟩:=pr hd
 exact λl v h h1 h2=>upG tN (A9Y _ _ l v h h1 h2)
theorem c81 (d:Nat) (hd:3<=d):R81 (C d):=by
 obtain ⟨e,rfl,he⟩:=pr hd
 exact λtk vl L nm h h1=>upT tN (r81 _ _ (c38 e he) (c82 e (by omega)) (A1Z e (by omega)) tk vl L nm h h1)
theorem c83 (d:Nat) (hd:2<=d):R83 (C d):=by
 obtain ⟨e,rfl,he⟩:=pr hd
 exact λnm a b w ws h h1 h2=>upG tN (r83 _ _ (A1Z e he) nm a b w ws h h1 h2)
theorem c43 (d:Nat) (hd:4<=d):R43 (C d):=by
 obtain ⟨e,rfl,he⟩:=pr hd
 exact λtk vl L h h1=>upT tN (r43 _ _ (c38 e (by omega)) (c81 e he) (c82 e (by omega)) (c83 e (by omega)) (by decide) tk vl L h h1)
theorem c15 (d:Nat) (hd:5<=d):R15 (C d):=by
 obtain ⟨e,rfl,he⟩:=pr hd
 exact λvl L h h1 h2=>upG tN (r15 _ _ (c43 e he) vl L h h1 h2)
theorem c44 (d:Nat) (hd:1<=d):R44 (C d):=by
 obtain ⟨e,rfl,he⟩:=pr hd
 exact λo h=>upG tN (r44 _ _ o h)
theorem c45 (d:Nat) (hd:1<=d):R45 (C d):=by
 obtain ⟨e,rfl,he⟩:=pr hd
 exact λo h=>upG tN (r45 _ _ o h)
theorem c79 (d:Nat) (hd:1<=d):R79 (C d):=by
 obtain ⟨e,rfl,he⟩:=pr hd
 exact λtk A1 cv i h h1 h2 h3 h4=>upG tN (r79 _ _ (by decide) tk A1 cv i h h1 h2 h3 h4)
theorem c40 (d:Nat) (hd:1<=d):R40 (C d):=by
 obtain ⟨e,rfl,he⟩:=pr hd
 exact λtk ss sv t o h h1 h2=>upG tN (r40 _ _ (by decide) tk ss sv t o h h1 h2)
theorem c80:∀(k:Nat),k<=3->∀d,k+3<=d->R80 (C d) k/\R41 (C d) k
 |0,_,d,hd=>by
  obtain ⟨e,rfl,he⟩:=pr (show 2+1<=d by omega)
  exact ⟨λtk vl L cv A1 m h h1 h2 h3 h4 h5=>upT tN (r80 _ _ (c38 e he) 0 (by omega) (λe h=>by omega) tk vl L cv A1 m h h1 h2 h3 h4 h5),λtk vl L cv A1 m h h1 h2 h3 h4 h5=>upT tN (r41 _ _ (c38 e he) (c79 e (by omega)) 0 (by omega) (λe h=>by omega) tk vl L cv A1 m h h1 h2 h3 h4 h5)⟩
 |k+1,hk,d,hd=>by
  obtain ⟨e,rfl,he⟩:=pr (show 2+1<=d by omega)
  have ih:∀x,k+1=x+1->R80 (C e) x/\R41 (C e) x:=λx hx=>by
   obtain rfl:k=x:=by omega
   exact c80 k (by omega) e (by omega)
  exact ⟨λtk vl L cv A1 m h h1 h2 h3 h4 h5=>upT tN (r80 _ _ (c38 e he) (k+1) hk ih tk vl L cv A1 m h h1 h2 h3 h4 h5),λtk vl L cv A1 m h h1 h2 h3 h4 h5=>upT tN (r41 _ _ (c38 e he) (c79 e (by omega)) (k+1) hk ih tk vl L cv A1 m h h1 h2 h3 h4 h5)⟩
theorem c39 (d:Nat) (hd:3<=d):R39 (C d):=by
 obtain ⟨e,rfl,he⟩:=pr hd
 exact λtk vl L bq h q vc vo vm a b h1 h2=>upG tN (r39 _ _ (c38 e he) (by decide) tk vl L bq h q vc vo vm a b h1 h2)
theorem c42 (d:Nat) (hd:7<=d):R42 (C d):=by
 obtain ⟨e,rfl,he⟩:=pr hd
 exact λtk vl L bq h cv A1 q vm h1 h2 h3 h4=>upG tN (r42 _ _ (c38 e (by omega)) (c79 e (by omega)) (c80 3 (by omega) e (by omega)).1 (by decide) tk vl L bq h cv A1 q vm h1 h2 h3 h4)
theorem c14 (d:Nat) (hd:8<=d):R14 (C d):=by
 obtain ⟨e,rfl,he⟩:=pr hd
 exact λvl sv L ss h h1 h2 h3=>upG tN (r14 _ _ (c38 e (by omega)) (c39 e (by omega)) (c40 e (by omega)) (c80 3 (by omega) e (by omega)).2 (c42 e he) vl sv L ss h h1 h2 h3)
theorem c17 (d:Nat) (hd:3<=d):R17 (C d):=by
 obtain ⟨e,rfl,he⟩:=pr hd
 exact λtk vl L h lv t k h1 h2 h3 h4 h5=>upT tN (r17 _ _ (c38 e he) (c44 e (by omega)) (c45 e (by omega)) (by decide) tk vl L h lv t k h1 h2 h3 h4 h5)
theorem c33 (d:Nat) (hd:1<=d):R33 (C d):=by
 obtain ⟨e,rfl,he⟩:=pr hd
 exact λl m v w h h1 h2 h3 h4=>upG tN (r33 _ _ (by decide) l m v w h h1 h2 h3 h4)
theorem c36 (d:Nat) (hd:1<=d):R36 (C d):=by
 obtain ⟨e,rfl,he⟩:=pr hd
 exact λl m v w h h1 h2 h3 h4=>upG tN (r36 _ _ (by decide) l m v w h h1 h2 h3 h4)
theorem c26 (d:Nat) (hd:1<=d):R26 (C d):=by
 obtain ⟨e,rfl,he⟩:=pr hd
 exact λl v h h1 h2=>upG tN (r26 _ _ l v h h1 h2)
theorem c27 (d:Nat) (hd:1<=d):R27 (C d):=by
 obtain ⟨e,rfl,he⟩:=pr hd
 exact λl v h h1 h2=>upG tN (r27 _ _ l v h h1 h2)
theorem W0 (d:Nat) (hd:2<=d):R12 (C d):=by
 obtain ⟨e,rfl,he⟩:=pr hd
 exact λq vc vo vm wc wo wm h h1 h2 h3 h4 h5=>upG tN (r12 _ _ (c33 e he) (c36 e he) q vc vo vm wc wo wm h h1 h2 h3 h4 h5)
theorem Ww:∀t:Tr,Kq t->Wf t
 |.leaf x,h=>trivial
 |.one o a,h=>Ww a h.2
 |.two o a b,h=>⟨by have:=h.1;omega,Ww a h.2.1,Ww b h.2.2⟩
 |.three c a b,h=>⟨Ww c h.1,Ww a h.2.1,Ww b h.2.2⟩
theorem k29 (d:Nat):N29 (C (d+1)):=λt h hr hs=>Xi (S:=S29) tS (Cd Nc (a:=t) (dom:=λt=>Wf t/\size t<=1000) ⟨Ww t hr,by omega⟩) h
theorem k31 (d:Nat):N31 (C (d+1)):=λh=>N7 (T:=T27) tS true h
theorem k30 (d:Nat):N30 (C (d+1)):=λa b h ha hb=>J3 (T:=T27) tS a b h ha hb
theorem AaB [Ii] {ctx:Ac} {q:Bool} {g:FuncId} {args:List AV} {h h0:H} {n:Nat} {Q:AV->H->Prop} (hc:Sx.Cb n h0 Q (Ay PP ctx 1048576 q g args h)):Sx.Cb n h0 Q (Fy PP ctx g args h):=by
 obtain ⟨v,h',h1,h2,h3⟩:=hc
 exact ⟨v,h',Jn (Nat.le_refl _) h1,h2,h3⟩
theorem k64 (d:Nat):H64 (C (d+1)):=λt h=>Xi (S:=S64) tS (Cd Nc (a:=t) (dom:=λ_=>True) trivial) h
theorem A9z [Ii] (d:Nat):A1l (C (d+1)):=λh v ts h1 h2 h3 h4=>by
 rw [cdN (T:=T27) tS]
 exact Ji (n173 _ 1048576 h v ts h1 h2 h3 h4)
theorem A9x [Ii] (d:Nat):Ad5 (C (d+2)):=by
 intro h0 h bp m st ts w h1 h2 h3 h4 h5 h6 h7
 rw [cdN (T:=T27) tS]
 have a1:st.length<=50000:=by omega
 have a2:ts.length<=50000:=by omega
 have a3:ts.length+1<=1048576:=by omega
 have hc:=n108 (h0:=h0) (h:=h) (bp:=bp) (m:=m) (st:=st) (ts:=ts) (w:=w) (C (d+1)) 1048576 (k64 d) (A9z d) h1 h2 h3 h4 h5 a1 a2 a3
 exact AaB hc
theorem A9L [Ii] {ctx:Ac} (Ov:Ad5 ctx):∀{h0 h:H} {bp m:Nat} {st:List Tr} {x:Nd},Ew h0.nx h bp st->Sx.Ext m h0 h->h0.nx+m+20<=Bq->st.length<=40000->Sx.Cb (m+10) h0 (Vl h0.nx bp (Fa st x)) (Fy Tryz.prog ctx 63 [.ptr bp 0,.agg (Bw x)] h):=
 λ{h0 h bp m st x} h1 h2 h3 h4=>by
  have hc:=n63 (h0:=h0) (h:=h) (bp:=bp) (m:=m) (st:=st) (x:=x) ctx 1048576 Ov h1 h2 h3 h4
  exact AaB hc
theorem k63 [Ii] (d:Nat):H63 (C (d+3)):=by
 intro h0 h bp m st x h1 h2 h3 h4
 rw [cdN (T:=T27) tS]
 have Ov:Ad5 (C (d+2)):=A9x d
 exact A9L (h0:=h0) (h:=h) (bp:=bp) (m:=m) (st:=st) (x:=x) Ov h1 h2 h3 h4
theorem Aru [Ii] {n:Nat} {h:H} {Q:AV->H->Prop} {r:OR} (hg:Sx.Cb n h Q r):Sx.Ah h Q r:=by
 obtain ⟨v,h',h1,h2,h3⟩:=hg
 exact ⟨v,h',h1,⟨h2.lo,h2.Cf,h2.lg⟩,h3⟩
theorem kNd (d:Nat) (hd:2000<=d):NNd (C d):=by
 intro t h hs
 let i:Ii:=⟨h.nx+100000⟩
 have hl:Bq=h.nx+100000:=rfl
 have hh:=AjR (T:=T27) tS tS tS tS tS t d (by omega) h (by rw [hl];omega) (by omega)
 obtain ⟨v,h',h1,h2,h3,h4⟩:=Aru hh
 refine ⟨v,h',h1,h2,?_,?_,h4⟩
 . rcases h3.at' with ⟨q0,q1,q2⟩|⟨b,off,cap,ex,cs,e,k,q1,q2,q3,q4,q5,q6,q7⟩
   . exact .inl ⟨q0,q1,q2⟩
   . refine .inr ⟨b,off,cap,ex,cs,q1,q2,⟨q5,e,k,q3,?_⟩,q6,q7⟩
     cases k with
     |exact=>trivial
     |Gt c=>trivial
     |fz c=>trivial
     |Cf c st=>cases q4
 . intro b off len cap z ex hv h0
   rcases h4 with q0|⟨b',Yk,Ll,ex',cs,k,q1,q2,q3,q4,_⟩
   . have hp:=size_pos t
     rw [Ao] at q0
     omega
   . rw [q1] at hv
     cases hv
     exact q4
attribute [local irreducible] Aa Al Af Ad
theorem Azr (ctx:Ac) (n:Nat) (c:Bool) (v:AV) (h:H) (hlen:∀hh,Fo v hh=.ok (.int .i64 0) hh):Sx.Ah h (λr _=>r=.Bj [.B3,.bool false]) (Ay Tryz.prog ctx (n+1) true 28 [v,.bool c] h):=by
 rw [e28]
 repeat' (first|with_reducible (first|apply A7|apply A8|apply A9|apply Ba)|(with_reducible (first|apply Cy|apply Cz|apply C0|apply C1);(conv=>lhs;simp (disch:=first|exact dA|fail) [lw, *]);with_reducible (first|apply A7|apply A8|apply A9|apply Ba|apply Cu|(refine Cv (by simp) ?_)|(apply Cw<;>intro hc<;>(try simp only [Bt] at hc)<;>(try (exfalso;omega)))))|(with_reducible (first|apply Kl|apply Km);(conv=>lhs;simp only [zw,Bool.not_true]))|(with_reducible (first|apply C2|apply C3|apply C4|apply C5)<;>intro hc<;>(try simp only [Bt] at hc)<;>(try (exfalso;omega))))
 rw [Ajh]
 repeat' (first|with_reducible (first|apply A7|apply A8|apply A9|apply Ba)|(with_reducible (first|apply Cy|apply Cz|apply C0|apply C1);(conv=>lhs;simp (disch:=first|exact dA|fail) [lw, *]);with_reducible (first|apply A7|apply A8|apply A9|apply Ba|apply Cu|(refine Cv (by simp) ?_)|(apply Cw<;>intro hc<;>(try simp only [Bt] at hc)<;>(try (exfalso;omega)))))|(with_reducible (first|apply Kl|apply Km);(conv=>lhs;simp only [zw,Bool.not_true]))|(with_reducible (first|apply C2|apply C3|apply C4|apply C5)<;>intro hc<;>(try simp only [Bt] at hc)<;>(try (exfalso;omega))))
 exact Sx.Lo ((Sx.Ai.refl h).new _) rfl
theorem An6 {lo:Nat} {h:H} {v:AV} {l:List Nd} (hs:FrN lo h v l) (Hr:l≠[]):Zi h v l:=by
 have hp:0<l.length:=List.length_pos_iff.2 Hr
 rcases hs.sl with ⟨q0,_,_⟩|⟨b,off,cap,ex,bs,rfl,q2,q3,q4,q5⟩
 . omega
 . rcases hs.wr with q0|⟨b',Yk,Ll,ex',cs,k,p1,p2,p3,p4,p5,p6⟩
   . omega
   . cases p1
     obtain ⟨e',k',q6,q7⟩:=q3.cells
     rw [p2] at q6
     cases q6
     refine ⟨.inr ⟨b,off,cap,ex,_,_,_,rfl,q2,p2,?_,q3.lt,q4,q5⟩⟩
     rcases p6 with rfl|⟨c,st,rfl,_⟩
     . trivial
     . trivial
theorem k28 (d:Nat) (hd:4<=d):N28 (C d):=by
 obtain ⟨e,rfl⟩:∃e,d=e+3+1:=⟨d - 4,by omega⟩
 intro c l v h lo hs hl
 by_cases Hr:l=[]
 . subst Hr
   have hlen:∀hh,Fo v hh=.ok (.int .i64 0) hh:=λ_=>hs.sl.Gs
   rw [show Je [] c=none from rfl]
   exact upG tN (Azr _ 1048575 c v h hlen)
 . let i:Ii:=⟨h.nx+100000⟩
   have P4:Bq=h.nx+100000:=rfl
   have h63:H63 (C (e+3)):=k63 e
   have hc:=n28 (C (e+3)) 1048576 h63 (k64 (e+2)) c l hl (by omega) (An6 hs Hr) (by rw [P4];omega)
   exact upG tN (Aru hc)
theorem c10 (d:Nat) (hd:2001<=d):R10 (C d):=by
 obtain ⟨e,rfl,he⟩:=pr hd
 obtain ⟨f,hf⟩:∃f,e=f+1:=⟨e - 1,by omega⟩
 have a1:N29 (C e):=by rw [hf];exact k29 f
 have a2:N30 (C e):=by rw [hf];exact k30 f
 have a3:N31 (C e):=by rw [hf];exact k31 f
 exact λq vc vo vm h h1 h2 h3 h4=>upG tN (r10 _ _ (c26 e (by omega)) (c27 e (by omega)) (k28 e (by omega)) a1 a2 a3 (kNd e he) (λl c t hb=>⟨(Ui hb).1,(Ui hb).2.1⟩) (λt ht=>(Hi t ht).2) q vc vo vm h h1 h2 h3 h4)
end Go.Proofs
namespace Go.Proofs
open Go Go.Ev Go.Nm
attribute [local irreducible] Aa Al Af Ad
variable (ctx:Ac) (N:Nat)
def K13 (h:H):Prop:=∀h1,Sx.Ai h h1->Sx.Ah h1 (λr _=>r=.bool true) (ctx.call 13 [] h1)
theorem R8.all {lo:Nat} {r:AV} {h1:H} (ho:R8 lo r h1):∃l,∀tk,h1.nx<=tk->W9 tk h1 r l:=by
 obtain ⟨l,q1,q2,q3⟩:=ho
 refine ⟨l,λtk hk=>⟨q1,q2,q3.own.sl,Sl.av q3.own.sl hk,λs hs=>?_⟩⟩
 have a:=q3.ok s hs
 exact ⟨a.nn,a.ne,a.Mu,⟨a.A1.sl,Sl.av a.A1.sl hk,λc hc=>⟨(a.A1.ok c hc).Mu,(a.A1.ok c hc).words,Sl.av (a.A1.ok c hc).words hk,(a.A1.ok c hc).one,(a.A1.ok c hc).cell⟩⟩,a.one,a.cell,λb off len cap z ex hv h0=>by
  obtain ⟨p1,p2⟩:=a.kz b off len cap z ex hv h0
  exact ⟨Nat.lt_of_lt_of_le p1 hk,λk hkk=>Nat.lt_of_lt_of_le (p2 k hkk) hk⟩⟩
def Sws (k:Bool) (l l':List Nd):Prop:=(l=[]/\l'=[])\/∃t t',Ty k t/\Sw t t'/\size t<=94/\l=t.nodes/\l'=t'.nodes
theorem Aml {l l':List Nd} (h:Sws false l l') (hl:l'.length<=200):Rn l'=Rn l:=by
 rcases h with ⟨rfl,rfl⟩|⟨t,t',h1,h2,h3,rfl,rfl⟩
 . rfl
 . obtain ⟨h4,h5⟩:=Asj h2 false h1
   unfold Rn
   rw [Y3 h1,Y3 h4]
   simp only
   rw [if_pos hl,if_pos (show t.nodes.length<=200 by rw [Ao];omega),h5]
theorem AzP {l l':List Nd} (h:Sws true l l') (hl:l'.length<=200):Tb l'=Tb l:=by
 rcases h with ⟨rfl,rfl⟩|⟨t,t',h1,h2,h3,rfl,rfl⟩
 . rfl
 . obtain ⟨h4,h5⟩:=Asj h2 true h1
   unfold Tb
   rw [Y3 h1,Y3 h4]
   simp only
   rw [if_pos hl,if_pos (show t.nodes.length<=200 by rw [Ao];omega),h5]
theorem AnD (q:Qr) (h1:q.code.length<=300) (h2:q.E9.length<=300):(Oa q).code.length<=300/\(Oa q).E9.length<=300/\(Oa q).ord=q.ord:=by
 refine ⟨?_,?_,rfl⟩
 . show (Rn q.code).length<=300
   unfold Rn
   split
   . rename_i t hb
     obtain ⟨e1,e2,_⟩:=Ui hb
     split
     . rw [Ao];have:=(Hi t e2).2;omega
     . exact h1
   . exact h1
 . show (Tb q.E9).length<=300
   unfold Tb
   split
   . rename_i t hb
     obtain ⟨e1,e2,_⟩:=Ui hb
     split
     . split
       . simp
       . rw [Ao];have:=(Hi t e2).2;omega
     . exact h2
   . exact h2
set_option maxHeartbeats 2000000 in
theorem j5b (Fh:R10 ctx) (Gd:R12 ctx) {h0 h:H} (g0:Sx.Ai h0 h) (b4 b9:Nat) (q r:Qr) (vc vo vm wc wo wm:AV) (hq:QV h q vc vo vm) (hr:QV h r wc wo wm) (g4:h.m.get b4=.cells (qc q vc vo vm) 26 .exact) (l4:b4<h.nx) (g9:h.m.get b9=.cells (qc r wc wo wm) 26 .exact) (l9:b9<h.nx) (f0:L2)
 (hq1:q.code.length<=300) (hq2:q.E9.length<=300) (hq3:q.ord.length<=300) (hr1:r.code.length<=300) (hr2:r.E9.length<=300) (hr3:r.ord.length<=300) (AhF:r.code.length<=200->r.E9.length<=200->Oa r=Oa q):
 Sx.Ah h0 (λv _=>v=.bool true) (AoZ ctx N (.bool true) (.ptr b4 0) (.ptr b9 0) f0 h):=by
 have hlc:∀hh,Fo wc hh=.ok (.int .i64 (r.code.length:Int)) hh:=λ_=>hr.c.Gs
 have hlm:∀hh,Fo wm hh=.ok (.int .i64 (r.E9.length:Int)) hh:=λ_=>hr.m.Gs
 obtain ⟨lc,A8A⟩:∃lc:Int,(r.code.length:Int)=lc:=⟨_,rfl⟩
 obtain ⟨lm,A8D⟩:∃lm:Int,(r.E9.length:Int)=lm:=⟨_,rfl⟩
 rw [A8A] at hlc
 rw [A8D] at hlm
 rw [A1s]
 by_cases k1:200<lc
 . have e1:decide (200<lc)=true:=decide_eq_true k1
   repeat' (first|with_reducible (first|apply A7|apply A8|apply A9|apply Ba)|(with_reducible (first|apply Cy|apply Cz|apply C0|apply C1);(conv=>lhs;simp (disch:=first|exact dA|fail) [lw, *,g9,hlc,e1]);with_reducible (first|apply A7|apply A8|apply A9|apply Ba|apply Cu|(refine Cv (by simp) ?_)|(apply Cw<;>intro hc<;>(try simp only [Bt] at hc)<;>(try (exfalso;omega)))))|(with_reducible (first|apply Kl|apply Km);(conv=>lhs;simp only [zw,e1]))|(with_reducible (first|apply C2|apply C3|apply C4|apply C5)<;>intro hc<;>(try simp only [Bt] at hc)<;>(try (exfalso;omega))))
   exact zr Ex rfl
 . have e1:decide (200<lc)=false:=decide_eq_false k1
   by_cases k2:200<lm
   . have e2:decide (200<lm)=true:=decide_eq_true k2
     repeat' (first|with_reducible (first|apply A7|apply A8|apply A9|apply Ba)|(with_reducible (first|apply Cy|apply Cz|apply C0|apply C1);(conv=>lhs;simp (disch:=first|exact dA|fail) [lw, *,g9,hlc,hlm,e1,e2]);with_reducible (first|apply A7|apply A8|apply A9|apply Ba|apply Cu|(refine Cv (by simp) ?_)|(apply Cw<;>intro hc<;>(try simp only [Bt] at hc)<;>(try (exfalso;omega)))))|(with_reducible (first|apply Kl|apply Km);(conv=>lhs;simp only [zw,e1,e2]))|(with_reducible (first|apply C2|apply C3|apply C4|apply C5)<;>intro hc<;>(try simp only [Bt] at hc)<;>(try (exfalso;omega))))
     exact zr Ex rfl
   . have e2:decide (200<lm)=false:=decide_eq_false k2
     have hs:=AhF (by omega) (by omega)
     obtain ⟨n1,n2,n3⟩:=AnD q hq1 hq2
     have hcq:∀hx,Sx.Ai h hx->Sx.Ah hx (AgG hx.nx (Oa q)) (ctx.call 10 [.agg (qc q vc vo vm)] hx):=λhx g=>Fh q vc vo vm hx (hq.By g.keeps) (by omega) (by omega) (by omega)
     have hcr:∀hx,Sx.Ai h hx->Sx.Ah hx (AgG hx.nx (Oa q)) (ctx.call 10 [.agg (qc r wc wo wm)] hx):=λhx g=>hs ▸ Fh r wc wo wm hx (hr.By g.keeps) (by omega) (by omega) (by omega)
     replace hcq:=(show F5 _ from hcq)
     replace hcr:=(show F5 _ from hcr)
     clear AhF hq hr
     repeat' (first|with_reducible (first|apply A7|apply A8|apply A9|apply Ba)|(with_reducible (first|apply Cy|apply Cz|apply C0|apply C1);(conv=>lhs;simp (disch:=first|exact dA|fail) [lw, *,g4,g9,hlc,hlm,e1,e2]);with_reducible (first|apply A7|apply A8|apply A9|apply Ba|apply Cu|(refine Cv (by simp) ?_)|(apply Cw<;>intro hc<;>(try simp only [Bt] at hc)<;>(try (exfalso;omega)))))|(with_reducible (first|apply Kl|apply Km);(conv=>lhs;simp only [zw,e1,e2]))|(with_reducible (first|apply C2|apply C3|apply C4|apply C5)<;>intro hc<;>(try simp only [Bt] at hc)<;>(try (exfalso;omega)))|(refine Sx.B8 ?_ ?_;(focus (simp (disch:=first|decide|omega|(simp only [C9];omega)) [Sx.Aw,Sx.Am,Sx.Ar,Sx.Ax, *];done));(try simp (disch:=first|exact Ce|fail) only [Sx.Aw,Sx.Am,Sx.Bx,Sx.Ap,Sx.At,List.nil_append,List.cons_append,Sx.B9,Sx.Dp,Sx.Dn,C9,Sx.Ca, *])))
     refine zc1 ((show ∀hx,Sx.Ai h hx->Sx.Ah hx (AgG hx.nx (Oa q)) (ctx.call 10 [.agg (qc q vc vo vm)] hx) from hcq) _ Ex) λv1 h1 ee1 l1 Aad q1=>?_
     obtain ⟨ac,ao,am,rfl,qs1⟩:=q1
     have a1:Sx.Ai h h1:=ee1.Rc.Rc
     have g9':h1.m.get b9=.cells (qc r wc wo wm) 26 .exact:=(Aad b9 l9).trans g9
     simp only [C9] at l1
     repeat' (first|with_reducible (first|apply A7|apply A8|apply A9|apply Ba)|(with_reducible (first|apply Cy|apply Cz|apply C0|apply C1);(conv=>lhs;simp (disch:=first|exact dA|fail) [lw, *,g9']);with_reducible (first|apply A7|apply A8|apply A9|apply Ba|apply Cu|(refine Cv (by simp) ?_)|(apply Cw<;>intro hc<;>(try simp only [Bt] at hc)<;>(try (exfalso;omega)))))|(with_reducible (first|apply Kl|apply Km);(conv=>lhs;simp only [zw,Bool.not_true]))|(with_reducible (first|apply C2|apply C3|apply C4|apply C5)<;>intro hc<;>(try simp only [Bt] at hc)<;>(try (exfalso;omega)))|(refine Sx.B8 ?_ ?_;(focus (simp (disch:=first|decide|omega|(simp only [C9];omega)) [Sx.Aw,Sx.Am,Sx.Ar,Sx.Ax, *];done));(try simp (disch:=first|exact Ce|fail) only [Sx.Aw,Sx.Am,Sx.Bx,Sx.Ap,Sx.At,List.nil_append,List.cons_append,Sx.B9,Sx.Dp,Sx.Dn,C9,Sx.Ca, *])))
     refine zc1 ((show ∀hx,Sx.Ai h hx->Sx.Ah hx (AgG hx.nx (Oa q)) (ctx.call 10 [.agg (qc r wc wo wm)] hx) from hcr) _ Ex) λv2 h2 ee2 l2 Aae q2=>?_
     obtain ⟨bc,bo,bm,rfl,qs2⟩:=q2
     simp only [C9] at l2
     have a2:Sx.Ai h1 h2:=ee2.Rc.Rc
     repeat' (first|with_reducible (first|apply A7|apply A8|apply A9|apply Ba)|(with_reducible (first|apply Cy|apply Cz|apply C0|apply C1);(conv=>lhs;simp (disch:=first|exact dA|fail) [lw, *]);with_reducible (first|apply A7|apply A8|apply A9|apply Ba|apply Cu|(refine Cv (by simp) ?_)|(apply Cw<;>intro hc<;>(try simp only [Bt] at hc)<;>(try (exfalso;omega)))))|(with_reducible (first|apply Kl|apply Km);(conv=>lhs;simp only [zw,Bool.not_true]))|(with_reducible (first|apply C2|apply C3|apply C4|apply C5)<;>intro hc<;>(try simp only [Bt] at hc)<;>(try (exfalso;omega)))|(refine Sx.B8 ?_ ?_;(focus (simp (disch:=first|decide|omega|(simp only [C9];omega)) [Sx.Aw,Sx.Am,Sx.Ar,Sx.Ax, *];done));(try simp (disch:=first|exact Ce|fail) only [Sx.Aw,Sx.Am,Sx.Bx,Sx.Ap,Sx.At,List.nil_append,List.cons_append,Sx.B9,Sx.Dp,Sx.Dn,C9,Sx.Ca, *])))
     refine zc1 (Gd (Oa q) ac ao am bc bo bm (Ab h2) (qs1.qv.By M0) (qs2.qv.By M0) (by omega) (by rw [n3];omega) (by omega)) λv3 h3 ee3 l3 Ary q3=>?_
     subst q3
     simp only [C9] at l3
     have a3:Sx.Ai h2 h3:=ee3.Rc
     repeat' (first|with_reducible (first|apply A7|apply A8|apply A9|apply Ba)|(with_reducible (first|apply Cy|apply Cz|apply C0|apply C1);(conv=>lhs;simp (disch:=first|exact dA|fail) [lw, *]);with_reducible (first|apply A7|apply A8|apply A9|apply Ba|apply Cu|(refine Cv (by simp) ?_)|(apply Cw<;>intro hc<;>(try simp only [Bt] at hc)<;>(try (exfalso;omega)))))|(with_reducible (first|apply Kl|apply Km);(conv=>lhs;simp only [zw,Bool.not_true]))|(with_reducible (first|apply C2|apply C3|apply C4|apply C5)<;>intro hc<;>(try simp only [Bt] at hc)<;>(try (exfalso;omega)))|(refine Sx.B8 ?_ ?_;(focus (simp (disch:=first|decide|omega|(simp only [C9];omega)) [Sx.Aw,Sx.Am,Sx.Ar,Sx.Ax, *];done));(try simp (disch:=first|exact Ce|fail) only [Sx.Aw,Sx.Am,Sx.Bx,Sx.Ap,Sx.At,List.nil_append,List.cons_append,Sx.B9,Sx.Dp,Sx.Dn,C9,Sx.Ca, *])))
     refine Sx.Pu h.nx h.nx ?_ λLz hLz=>?_
     . simp only [List.forall_mem_cons,List.not_mem_nil,false_imp_iff,implies_true,and_true]
       repeat' (refine And.intro ?_ ?_)
       all_goals first|(left;exact Sx.Ai.quiet (by assumption))|(left;simp;done)|(left;rfl)
     . have a4:=(a1.trans a2).trans a3
       refine zr (g0.trans ⟨a4.lo,a4.Cf,λz hz=>?_⟩) rfl
       rcases hLz z hz with h5|rfl|h5
       . exact .inl h5
       . exact .inr (Nat.le_refl _)
       . exact .inr h5
set_option maxHeartbeats 2000000 in
theorem j5a (Fh:R10 ctx) (Gd:R12 ctx) (N6:R17 ctx) {h0 h3 h:H} (g03:Sx.Ai h0 h3) (g:Sx.Ai h3 h) (tk b4 b9:Nat) (vl:AV) (L:List Int) (hi:H9 tk vl L h) (htk:h3.nx<=tk) (q:Qr) (lc':List Nd) (vc vo vm wc:AV) (hq:QV h3 q vc vo vm) (hw:Ue h wc lc') (wt:Sx.Av tk wc) (w9:Sx.Av b9 wc) (hsc:Sws false q.code lc') (hlc:lc'.length<=300) (hm:q.E9=[]\/∃t,Ty true t/\size t<=Sd 3/\q.E9=t.nodes) (hql:q.code.length<=300) (ho:q.ord.length<=4)
 (g4:h.m.get b4=.cells (qc q vc vo vm) 26 .exact) (l4:b4<h.nx) (m4:h3.nx<=b4) (g9:h.m.get b9=.cells (qc { q with code:=lc' } wc vo vm) 26 .exact) (l9:b9<h.nx) (m9:h3.nx<=b9) (n4:b4≠tk) (n9:b9≠tk) (n49:b4≠b9) (f0:L2):
 Sx.Ah h0 (λv _=>v=.bool true) (Amr ctx N (.bool true) (.ptr b4 0) (.ptr tk 0) (.ptr b9 0) f0 h):=by
 have B6:=hi.at'.lt
 have hln:∀hh,Fo vm hh=.ok (.int .i64 (q.E9.length:Int)) hh:=λ_=>hq.m.Gs
 obtain ⟨p1,p2⟩:=B2 hq.c
 obtain ⟨p3,p4⟩:=B2 hq.o
 obtain ⟨p5,p6⟩:=B2 hq.m
 obtain ⟨p7,p8⟩:=B2 hw
 rcases hm with hm|⟨t,y1,y2,hm⟩
 . have fin:=λf=>j5b ctx N Fh Gd (g03.trans g) b4 b9 q { q with code:=lc' } vc vo vm wc vo vm (hq.By g.keeps) ⟨hw,(hq.By g.keeps).o,(hq.By g.keeps).m⟩ g4 l4 g9 l9 f hql (by rw [hm];simp) (by omega) hlc (by show q.E9.length<=300;rw [hm];simp) (by show q.ord.length<=300;omega) (λk1 k2=>by
    unfold Oa
    simp only
    rw [Aml hsc k1])
   replace fin:=(show F5 _ from fin)
   rw [hm] at hln
   have k1:decide ((0:Int)<0)=false:=rfl
   rw [Avf]
   repeat' (first|with_reducible (first|apply A7|apply A8|apply A9|apply Ba)|(with_reducible (first|apply Cy|apply Cz|apply C0|apply C1);(conv=>lhs;simp (disch:=first|exact dA|fail) [lw, *,g4,hln,k1]);with_reducible (first|apply A7|apply A8|apply A9|apply Ba|apply Cu|(refine Cv (by simp) ?_)|(apply Cw<;>intro hc<;>(try simp only [Bt] at hc)<;>(try (exfalso;omega)))))|(with_reducible (first|apply Kl|apply Km);(conv=>lhs;simp only [zw,k1]))|(with_reducible (first|apply C2|apply C3|apply C4|apply C5)<;>intro hc<;>(try simp only [Bt] at hc)<;>(try (exfalso;omega))))
   exact (show ∀f,_ from fin) _
 . have hmp:0<q.E9.length:=by rw [hm,Ao];exact size_pos t
   have A3Z:size t<=94:=Nat.le_trans y2 (by decide)
   obtain ⟨m1,hm1⟩:∃m1:Int,(q.E9.length:Int)=m1:=⟨_,rfl⟩
   rw [hm1] at hln
   have k1:decide (0<m1)=true:=decide_eq_true (by omega)
   have hT:=N6 tk vl L h vm t true hi (hm ▸ (hq.By g.keeps).m) (Sl.av hq.m htk) y1 A3Z
   have fin:∀(N6:H) (w2:AV) (t':Tr) (f:L2),Sx.TG tk vl h N6->Sw t t'->size t'<=3 * size t->Ue N6 w2 t'.nodes->W7 3 h.nx w2->Sx.Ah h0 (λv _=>v=.bool true) (AoZ ctx N (.bool true) (.ptr b4 0) (.ptr b9 0) f (N6.put b9 (.cells (qc { q with code:=lc',E9:=t'.nodes } wc vo w2) 26 .exact))):=by
    intro hy w2 t' f ty s1 s2 s3 s4
    have tl:=ty.lo
    have gy:Sx.Ai h3 (hy.put b9 (.cells (qc { q with code:=lc',E9:=t'.nodes } wc vo w2) 26 .exact)):=(Sb ty g htk).put b9 _ m9
    have g9y:hy.m.get b9=.cells (qc { q with code:=lc' } wc vo vm) 26 .exact:=(ty.Cf b9 l9 n9).trans g9
    have av2:Sx.Av b9 w2:=λb off len cap z ex hv h0=>by have:=s4 b off len cap z ex hv h0;omega
    refine j5b ctx N Fh Gd (g03.trans gy) b4 b9 q { q with code:=lc',E9:=t'.nodes } vc vo vm wc vo w2 (hq.By gy.keeps) ⟨?_,(hq.By gy.keeps).o,?_⟩ ?_ (show b4<hy.nx by omega) (Sx.A2 ..) (show b9<hy.nx by omega) f hql (by rw [hm,Ao];omega) (by omega) hlc (by show t'.nodes.length<=300;rw [Ao];omega) (by show q.ord.length<=300;omega) (λk1 k2=>?_)
    . exact Qp (Sx.Sl.tg hw hi.at' wt ty) w9 g9y rfl
    . exact Qp s3 av2 g9y rfl
    . exact (Sx.Aq _ _ _ n49).trans ((ty.Cf b4 l4 n4).trans g4)
    . unfold Oa
      simp only
      rw [Aml hsc k1,AzP (.inr ⟨t,t',y1,s1,A3Z,hm,rfl⟩) k2]
   replace fin:=(show F5 _ from fin)
   replace hT:=(show F5 _ from hT)
   clear hq hw N6 Fh Gd
   rw [Avf]
   repeat' (first|with_reducible (first|apply A7|apply A8|apply A9|apply Ba)|(with_reducible (first|apply Cy|apply Cz|apply C0|apply C1);(conv=>lhs;simp (disch:=first|exact dA|fail) [lw, *,g4,hln,k1]);with_reducible (first|apply A7|apply A8|apply A9|apply Ba|apply Cu|(refine Cv (by simp) ?_)|(apply Cw<;>intro hc<;>(try simp only [Bt] at hc)<;>(try (exfalso;omega)))))|(with_reducible (first|apply Kl|apply Km);(conv=>lhs;simp only [zw,k1]))|(with_reducible (first|apply C2|apply C3|apply C4|apply C5)<;>intro hc<;>(try simp only [Bt] at hc)<;>(try (exfalso;omega))))
   refine Sx.M5 (show Sx.D6 tk vl h (Alt h.nx t) _ from hT) λv5 h5 e5 l5 Az4 q5=>?_
   obtain ⟨t',s1,s2,s3,s4⟩:=q5
   obtain ⟨o1,o2⟩:=B2 s3
   have g9':=(Az4 b9 l9 n9).trans g9
   clear hT
   repeat' (first|with_reducible (first|apply A7|apply A8|apply A9|apply Ba)|(with_reducible (first|apply Cy|apply Cz|apply C0|apply C1);(conv=>lhs;simp (disch:=first|exact dA|fail) [lw, *,g9']);with_reducible (first|apply A7|apply A8|apply A9|apply Ba|apply Cu|(refine Cv (by simp) ?_)|(apply Cw<;>intro hc<;>(try simp only [Bt] at hc)<;>(try (exfalso;omega)))))|(with_reducible (first|apply C2|apply C3|apply C4|apply C5)<;>intro hc<;>(try simp only [Bt] at hc)<;>(try (exfalso;omega))))
   exact (show ∀(N6:H) (w2:AV) (t':Tr) (f:L2),_ from fin) h5 v5 t' _ e5 s1 s2 s3 s4
set_option maxHeartbeats 2000000 in
theorem r5 (Jz:R14 ctx) (Mt:R15 ctx) (N6:R17 ctx) (Fh:R10 ctx) (Gd:R12 ctx) (va vb vc:AV) (La Lb Lc:List Int) (h:H) (It:K13 ctx h) (ha:Lf h va La) (hb:Lf h vb Lb) (hc:Lf h vc Lc) (la:(La.length:Int)<=9223372036854775807) (lb:(Lb.length:Int)<=9223372036854775807) (lc:(Lc.length:Int)<=9223372036854775807):
 Sx.Ah h (λv _=>v=.bool true) (Ay Tryz.prog ctx N false 5 [va,vb,vc] h):=by
 rw [e5]
 obtain ⟨oc1,oc2⟩:=B2 hc
 refine zc1 (It h (Sx.Ai.refl h)) λv1 h1 e1 l1 Aad q1=>?_
 subst q1
 refine zc1 (Mt va La h1 (Sx.Sl.By ha e1.keeps) la) λsv h2 e2 l2 Aae q2=>?_
 obtain ⟨ss,hS⟩:=q2.all
 refine zc1 (Jz vb sv Lb ss h2 (Sx.Sl.By hb (e1.trans e2).keeps) lb hS) λv3 h3 e3 l3 Ary q3=>?_
 obtain ⟨q,wc,wo,wm,rfl,qv,qc1,qm1,qo1⟩:=q3
 have g3:=(e1.trans e2).trans e3
 have hc3:Lf h3 vc Lc:=Sx.Sl.By hc g3.keeps
 obtain ⟨p1,p2⟩:=B2 qv.c
 obtain ⟨p3,p4⟩:=B2 qv.o
 obtain ⟨p5,p6⟩:=B2 qv.m
 have hlc:∀hh,Fo wc hh=.ok (.int .i64 (q.code.length:Int)) hh:=λ_=>qv.c.Gs
 have hlm:∀hh,Fo wm hh=.ok (.int .i64 (q.E9.length:Int)) hh:=λ_=>qv.m.Gs
 obtain ⟨c1,hc1⟩:∃lc:Int,(q.code.length:Int)=lc:=⟨_,rfl⟩
 obtain ⟨m1,hm1⟩:∃lm:Int,(q.E9.length:Int)=lm:=⟨_,rfl⟩
 rw [hc1] at hlc
 rw [hm1] at hlm
 clear Jz Mt It ha hb hc hS e1 e2 e3 Aad Aae Ary l1 l2 l3
 have hq3:q.code.length<=300:=by
  rcases qc1 with h1|⟨t,_,h2,h1⟩
  . rw [h1];simp
  . rw [h1,Ao];exact Nat.le_trans h2 (by decide)
 have hB:=AkJ (h:=(h3.new (.cells zq 26 .exact)).put h3.nx (.cells (qc q wc wo wm) 26 .exact)) (Sx.Sl.By hc3 (((Sx.Ai.refl h3).new _).put h3.nx _ (Nat.le_refl _)).keeps) lc
 obtain ⟨hA,hAe⟩:∃hA,hA=((((h3.new (.cells zq 26 .exact)).put h3.nx (.cells (qc q wc wo wm) 26 .exact)).new (Sx.tkC vc 0)).new (.cells zq 26 .exact)).put (h3.nx+2) (.cells (qc q wc wo wm) 26 .exact):=⟨_,rfl⟩
 have gA:Sx.Ai h3 hA:=by rw [hAe];exact Ex
 have hi:H9 (h3.nx+1) vc Lc hA:=by
  rw [hAe]
  refine H9.tg (tk:=h3.nx+1) hB (((Sx.TG.refl hB.at').new _).Aiq (h3.nx+2) _ (Nat.le_refl _))
 have nA:hA.nx=h3.nx+3:=by rw [hAe];rfl
 have g9:hA.m.get (h3.nx+2)=.cells (qc q wc wo wm) 26 .exact:=by rw [hAe];exact Sx.A2 ..
 have g4:hA.m.get h3.nx=.cells (qc q wc wo wm) 26 .exact:=by
  rw [hAe]
  refine (Sx.Aq (h:=((((h3.new (.cells zq 26 .exact)).put h3.nx (.cells (qc q wc wo wm) 26 .exact)).new (Sx.tkC vc 0)).new (.cells zq 26 .exact))) _ _ _ (show h3.nx≠h3.nx+2 by omega)).trans ?_
  refine (Sx.Cq (h:=(((h3.new (.cells zq 26 .exact)).put h3.nx (.cells (qc q wc wo wm) 26 .exact)).new (Sx.tkC vc 0))) _ _ (show h3.nx≠h3.nx+2 by omega)).trans ?_
  refine (Sx.Cq (h:=((h3.new (.cells zq 26 .exact)).put h3.nx (.cells (qc q wc wo wm) 26 .exact))) _ _ (show h3.nx≠h3.nx+1 by omega)).trans ?_
  exact Sx.A2 ..
 have AxT:∀f,q.code=[]->Sx.Ah h (λv _=>v=.bool true) (Amr ctx N (.bool true) (.ptr h3.nx 0) (.ptr (h3.nx+1) 0) (.ptr (h3.nx+2) 0) f hA):=λf hk=>
  j5a ctx N Fh Gd N6 g3 gA (h3.nx+1) h3.nx (h3.nx+2) vc Lc hi (Nat.le_succ _) q q.code wc wo wm wc qv (qv.By gA.keeps).c (Sl.av qv.c (Nat.le_succ _)) (Sl.av qv.c (by omega)) (.inl ⟨hk,hk⟩) hq3 qm1 hq3 qo1 g4 (by omega) (Nat.le_refl _) g9 (by omega) (by omega) (by omega) (by omega) (by omega) f
 have Afv:∀(hy:H) (w:AV) (t t':Tr) (f:L2),Sx.TG (h3.nx+1) vc hA hy->Ty false t->size t<=94->q.code=t.nodes->Sw t t'->size t'<=3 * size t->Ue hy w t'.nodes->W7 3 hA.nx w->Sx.Ah h (λv _=>v=.bool true) (Amr ctx N (.bool true) (.ptr h3.nx 0) (.ptr (h3.nx+1) 0) (.ptr (h3.nx+2) 0) f (hy.put (h3.nx+2) (.cells (qc { q with code:=t'.nodes } w wo wm) 26 .exact))):=by
  intro hy w t t' f ty y1 y2 y3 s1 s2 s3 s4
  have tl:=ty.lo
  have av:∀k,k<hA.nx->Sx.Av k w:=λk hk b off len cap z ex hv h0=>by have:=s4 b off len cap z ex hv h0;omega
  have g9y:hy.m.get (h3.nx+2)=.cells (qc q wc wo wm) 26 .exact:=(ty.Cf _ (by omega) (by omega)).trans g9
  have t2:Sx.TG (h3.nx+1) vc hA hy:=ty
  have hiy:H9 (h3.nx+1) vc Lc (hy.put (h3.nx+2) (.cells (qc { q with code:=t'.nodes } w wo wm) 26 .exact)):=by
   have h1:=hi.tg ty
   obtain ⟨m,hm,hc⟩:=h1.at'.cell
   exact ⟨⟨h1.at'.lt,m,hm,by rw [Sx.Aq _ _ _ (by omega)];exact hc⟩,Qp h1.ints (Sl.av hc3 (by omega)) g9y rfl,h1.av,h1.len⟩
  exact j5a ctx N Fh Gd N6 g3 ((Sb ty gA (Nat.le_succ _)).put (h3.nx+2) _ (by omega)) (h3.nx+1) h3.nx (h3.nx+2) vc Lc hiy (Nat.le_succ _) q t'.nodes wc wo wm w qv (Qp s3 (av _ (by omega)) g9y rfl) (av _ (by omega)) (av _ (by omega)) (.inr ⟨t,t',y1,s1,y2,y3,rfl⟩) (by rw [Ao];omega) qm1 hq3 qo1 ((Sx.Aq _ _ _ (by omega)).trans ((ty.Cf _ (by omega) (by omega)).trans g4)) (show h3.nx<hy.nx by omega) (Nat.le_refl _) (Sx.A2 ..) (show h3.nx+2<hy.nx by omega) (by omega) (by omega) (by omega) (by omega) f
 have hT:∀t,Ty false t->size t<=94->q.code=t.nodes->Sx.D6 (h3.nx+1) vc hA (Alt hA.nx t) (ctx.call 17 [.ptr (h3.nx+1) 0,wc] hA):=λt y1 y2 y3=>
  N6 (h3.nx+1) vc Lc hA wc t false hi (y3 ▸ (qv.By gA.keeps).c) (Sl.av qv.c (Nat.le_succ _)) y1 y2
 replace AxT:=(show F5 _ from AxT)
 replace Afv:=(show F5 _ from Afv)
 replace hT:=(show F5 _ from hT)
 clear hc3 qv hB hi gA g4 N6 Fh Gd
 repeat' (first|with_reducible (first|apply A7|apply A8|apply A9|apply Ba)|(with_reducible (first|apply Cy|apply Cz|apply C0|apply C1);(conv=>lhs;simp (disch:=first|exact dA|fail) [lw, *]);with_reducible (first|apply A7|apply A8|apply A9|apply Ba|apply Cu|(refine Cv (by simp) ?_)|(apply Cw<;>intro hc<;>(try simp only [Bt] at hc)<;>(try (exfalso;omega)))))|(with_reducible (first|apply C2|apply C3|apply C4|apply C5)<;>intro hc<;>(try simp only [Bt] at hc)<;>(try (exfalso;omega))))
 . have Hr:q.code≠[]:=λhh=>by rw [hh] at hc1;simp at hc1;omega
   rcases qc1 with hh|⟨t,y1,y2,y3⟩
   . exact absurd hh Hr
   have y4:size t<=94:=Nat.le_trans y2 (by decide)
   rw [show h3.nx+1+1=h3.nx+2 from rfl]
   rw [<- hAe]
   refine Sx.M5 ((show ∀t,Ty false t->size t<=94->q.code=t.nodes->_ from hT) t y1 y4 y3) λv5 h5 e5 l5 Az4 q5=>?_
   obtain ⟨t',s1,s2,s3,s4⟩:=q5
   obtain ⟨o1,o2⟩:=B2 s3
   have g9':=(Az4 (h3.nx+2) (by omega) (by omega)).trans g9
   clear hT
   repeat' (first|with_reducible (first|apply A7|apply A8|apply A9|apply Ba)|(with_reducible (first|apply Cy|apply Cz|apply C0|apply C1);(conv=>lhs;simp (disch:=first|exact dA|fail) [lw, *,g9']);with_reducible (first|apply A7|apply A8|apply A9|apply Ba|apply Cu|(refine Cv (by simp) ?_)|(apply Cw<;>intro hc<;>(try simp only [Bt] at hc)<;>(try (exfalso;omega)))))|(with_reducible (first|apply C2|apply C3|apply C4|apply C5)<;>intro hc<;>(try simp only [Bt] at hc)<;>(try (exfalso;omega))))
   exact (show ∀(hy:H) (w:AV) (t t':Tr) (f:L2),_ from Afv) h5 v5 t t' _ e5 y1 y4 y3 s1 s2 s3 s4
 . have hk:q.code=[]:=by
    rcases qc1 with hh|⟨t,y1,y2,y3⟩
    . exact hh
    . rw [y3,Ao] at hc1
      have:=size_pos t
      omega
   rw [show h3.nx+1+1=h3.nx+2 from rfl]
   rw [<- hAe]
   exact (show ∀f,q.code=[]->_ from AxT) _ hk
end Go.Proofs
